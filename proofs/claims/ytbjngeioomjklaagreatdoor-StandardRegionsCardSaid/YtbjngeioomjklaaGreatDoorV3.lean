/-
  The statement StandardRegions, over data.
-/
import Derived.Test.YtbjngeioomjklaaGreatDoorK1
namespace Go.Proofs.YtbjngeioomjklaaGreatDoor
open Go Go.Am Classical
set_option maxRecDepth 100000
set_option linter.unusedSectionVars false
theorem region_x : @Pu gtR Tryz.prog 28 [i64 1, .str [82,101,103,105,111,110]] (i64 6) := class_x (by kernel_rfl)
section
variable [GT]
def itN (N : List (List Nat)) (c s : Nat) : Nat → Nat
  | 0 => s
  | k + 1 => (N.getD (itN N c s k) []).getD c 0
theorem itL {N : List (List Nat)} {l : List Int} {p c s n : Nat} (h0 : stL (toII N) l p = (s : Int)) (hl : ∀ i, i < n → l.getD (p + i) 0 = (c : Int)) : ∀ i, i ≤ n → stL (toII N) l (p + i) = (itN N c s i : Int)
  | 0, _ => h0
  | i + 1, hi => by
    show nxt (toII N) (stL (toII N) l (p + i)) (l.getD (p + i) 0) = _
    rw [itL h0 hl i (by omega), hl i (by omega), nxt_nat]
    rfl
theorem itR {N : List (List Nat)} {l : List Int} {c n : Nat} (hl : ∀ j, j < n → l.getD (l.length - 1 - j) 0 = (c : Int)) : ∀ i, i ≤ n → stR (toII N) l i = (itN N c 0 i : Int)
  | 0, _ => rfl
  | i + 1, hi => by
    show nxt (toII N) (stR (toII N) l i) (l.getD (l.length - 1 - i) 0) = _
    rw [itR hl i (by omega), hl i (by omega), nxt_nat]
    rfl
def evL (N : List (List Nat)) (c s : Nat) (r : Nat) : List Nat := dd (((List.range 30).filter fun m => Nat.beq (m % 2) r).map fun m => itN N c s (m + 1))
def rgB (acts : List Int) (LN LM RN RM : List (List Nat)) (c s : Nat) : Bool :=
  allP (evL LN c s 1) (evL RN c 0 0 ++ evL RN c 0 1) (fun x y => ibe (actN acts LM RM x y) 2) && allP (evL LN c s 0) (evL RN c 0 0 ++ evL RN c 0 1) (fun x y => !ibe (actN acts LM RM x y) 2)
theorem ev_mem {N : List (List Nat)} {c s m : Nat} (h : m < 30) : itN N c s (m + 1) ∈ evL N c s (m % 2) :=
  mem_dd (List.mem_map.2 ⟨m, List.mem_filter.2 ⟨List.mem_range.2 h, by simp⟩, rfl⟩)
theorem rg_ok {acts : List Int} {LN LM RN RM : List (List Nat)} {c s : Nat} (h : rgB acts LN LM RN RM c s = true) {m j : Nat} (hm : m < 30) (hj : j < 30) : actN acts LM RM (itN LN c s (m + 1)) (itN RN c 0 (j + 1)) = 2 ↔ (m + 1) % 2 = 0 := by
  simp only [rgB, Bool.and_eq_true] at h
  have m1 := ev_mem (N := LN) (c := c) (s := s) hm
  have m2 : itN RN c 0 (j + 1) ∈ evL RN c 0 0 ++ evL RN c 0 1 := by
    have := ev_mem (N := RN) (c := c) (s := 0) hj
    rcases Nat.mod_two_eq_zero_or_one j with e | e <;> rw [e] at this <;> simp [this]
  rcases Nat.mod_two_eq_zero_or_one m with e | e
  · rw [e] at m1
    have := allP_ok h.2 m1 m2
    refine ⟨fun h2 => ?_, fun h2 => by omega⟩
    rw [ibe_iff.2 h2] at this
    cases this
  · rw [e] at m1
    exact ⟨fun _ => by omega, fun _ => ibe_iff.1 (allP_ok h.1 m1 m2)⟩
theorem wrap_u8 {a : Nat} (ha : a < 256) (d : Nat) : (IntKind.i64.wrap (a : Int)).tmod (d : Int) = ((a % d : Nat) : Int) := by
  rw [inK_wrap (k := .i64) (inK64 (by omega) (by omega))]
  rfl
theorem rep_get {pre : List Int} {n i : Nat} (h : i < n) : (pre ++ List.replicate n (6 : Int)).getD (pre.length + i) 0 = 6 := by
  rw [getD_get (by simp; omega)]
  rw [List.getElem_append_right (by omega)]
  simp
end
def preOk (pre : List Int) : Prop := pre = [] ∨ ∃ c : Nat, c < 15 ∧ c ≠ 6 ∧ pre = [(c : Int)]
theorem starts1 : (rgB (rs1.map (·.act)) LN1 LM1 RN1 RM1 6 0 && (List.range 15).all fun c => Nat.beq c 6 || rgB (rs1.map (·.act)) LN1 LM1 RN1 RM1 6 ((LN1.getD 0 []).getD c 0)) = true := by kernel_rfl
abbrev t1 : Tbl := tbl cl1 (rs1.map (·.act)) LN1 LM1 RN1 RM1
theorem region_ok {pre : List Int} (hp : preOk pre) {n m : Nat} (hn : n < 30) (hm : m + 1 < n) : (actAt t1 (pre ++ List.replicate n 6) (pre.length + (m + 1)) = 2 ↔ (m + 1) % 2 = 0) ∧ okL t1 (pre ++ List.replicate n 6) := by
  letI := gtR
  have hs := starts1
  simp only [Bool.and_eq_true, List.all_eq_true, Bool.or_eq_true, Nat.beq_eq] at hs
  have hlen : (pre ++ List.replicate n (6 : Int)).length = pre.length + n := by simp
  have hR := itR (N := RN1) (l := pre ++ List.replicate n 6) (c := 6) (n := n) (fun j hj => by
    rw [hlen, show pre.length + n - 1 - j = pre.length + (n - 1 - j) from by omega]
    exact rep_get (by omega)) (n - (m + 1)) (by omega)
  have hcl : CL (pre ++ List.replicate n (6 : Int)) (cl1.length : Int) := by
    intro i hi
    have h15 : (cl1.length : Int) = 15 := rfl
    rw [h15]
    by_cases h1 : i < pre.length
    · rw [List.getElem_append_left h1]
      rcases hp with rfl | ⟨c, h2, _, rfl⟩
      · simp at h1
      · simp at h1; subst h1; simp; omega
    · rw [List.getElem_append_right (by omega)]
      simp
  have key : ∀ s : Nat, stL (toII LN1) (pre ++ List.replicate n 6) pre.length = (s : Int) → rgB (rs1.map (·.act)) LN1 LM1 RN1 RM1 6 s = true → (actAt t1 (pre ++ List.replicate n 6) (pre.length + (m + 1)) = 2 ↔ (m + 1) % 2 = 0) := fun s h0 hb => by
    have hL := itL (N := LN1) (c := 6) (n := n) h0 (fun i hi => rep_get hi) (m + 1) (by omega)
    have e : actAt t1 (pre ++ List.replicate n 6) (pre.length + (m + 1)) = actN (rs1.map (·.act)) LM1 RM1 (itN LN1 6 s (m + 1)) (itN RN1 6 0 (n - (m + 1) - 1 + 1)) := by
      rw [← act_nat (cl := cl1) (LN := LN1) (RN := RN1), ← hL, show n - (m + 1) - 1 + 1 = n - (m + 1) from by omega, ← hR]
      show decA t1 (decO t1 (stL (toII LN1) _ _) (stR (toII RN1) _ _)) = _
      rw [hlen, show pre.length + n - (pre.length + (m + 1)) = n - (m + 1) from by omega]
    rw [e]
    exact rg_ok hb (by omega) (by omega)
  refine ⟨?_, hcl, kind1.tv⟩
  rcases hp with rfl | ⟨c, h1, h2, rfl⟩
  · exact key 0 rfl hs.1
  · refine key ((LN1.getD 0 []).getD c 0) ?_ ((hs.2 c (List.mem_range.2 h1)).resolve_left h2)
    show nxt (toII LN1) ((0 : Nat) : Int) (([(c : Int)] ++ List.replicate n 6).getD 0 0) = _
    exact nxt_nat
theorem regions_c {a b : Nat} (ha : a < 256) (hb : b < 256) : @Pu gtR Tryz.prog 8 [.v (.int .u8 (a : Int)), .v (.int .u8 (b : Int))] (boo true) := by
  letI := gtR
  refine Pu.of_v mixed T0 Tryz.func8 rfl rfl rfl ?_
  have hc : (IntKind.i64.wrap (a : Int)).tmod 16 = ((a % 16 : Nat) : Int) := wrap_u8 ha 16
  have hn : (IntKind.i64.wrap (b : Int)).tmod 30 = ((b % 30 : Nat) : Int) := wrap_u8 hb 30
  have hn0 : ([] : List Int).length = 0 := rfl
  repeat' ((conv => whnf) <;> (first | refine SeqV.go mixed T0 ?_ | exact True.intro | (refine Br.mk (fun _ => ?_) (fun _ => ?_) <;> (try (exfalso; omega))) | refine stq ?_ | refine Cll.pu region_x ?_ | fail))
  all_goals (conv => whnf)
  · skip
    refine LoopV.by2 mixed T0 (fun (k : Nat) (o : List Int) => ⟨tmp 66 [(5, i64 6), (7, i64 ((b % 30 : Nat) : Int)), (8, ownD 0 1 o), (9, i64 (0 : Int)), (10, i64 (k : Int))], ⟨1, ownB 0 (fun x => [i64 x]) o⟩⟩)
      (fun k o => k ≤ b % 30 ∧ o = [] ++ List.replicate k 6) (fun k _ => b % 30 - k) 0 [] ⟨by omega, by simp⟩ ?_ ?_
    · exact Lf.of2 [] [] (by (repeat (first | exact Ents.nil | refine Ents.cons rfl (by first | exact Rd.int hn | exact Rd.int (by simp) | exact rdA | fail) ?_ | fail)); (first | done | fail)) (by (repeat (first | exact Bxs.nil | refine Bxs.cons rfl rfl rfl (by first | exact Rb.cells (Rds.cons (Rd.int hc) Rds.nil) rfl | exact rbB | exact Rb.cells (by (repeat (first | exact Rds.nil | refine Rds.cons (by first | exact Rd.int hn | exact Rd.int (by simp) | exact rdA | fail) ?_ | fail)); (first | done | fail)) rfl | exact rbC | fail) ?_ | fail)); (first | done | fail)) rfl rfl
    intro k o ⟨h3, h4⟩
    cases o with
    | nil =>
      have hk0 : k = 0 := by simpa using (congrArg List.length h4).symm
      repeat' ((conv => whnf) <;> (first | refine SeqV.go mixed T0 ?_ | exact True.intro | (refine Br.mk (fun _ => ?_) (fun _ => ?_) <;> (try (exfalso; omega))) | refine stq ?_ | refine Cll.pu kind1.tab ?_ | refine LoopV.times mixed T0 1 ?_ | refine Cll.pu awake_c ?_ | fail))
      all_goals (conv => whnf)
      all_goals first
        | exact RetV.same rfl rfl
        | (exfalso; omega)
        | (refine ⟨k + 1, ([] : List Int) ++ [6], ⟨by omega, by rw [hk0]; rfl⟩, by omega, ?_⟩
           exact Lf.of2 [(0, _)] [] enA bxA rfl rfl)
    | cons x xs =>
      have hk : (x :: xs).length ≤ 1000 := by rw [h4]; simp; omega
      by_cases hkn : k < b % 30
      · repeat' ((conv => whnf) <;> (first | refine SeqV.go mixed T0 ?_ | exact True.intro | (refine Br.mk (fun _ => ?_) (fun _ => ?_) <;> (try (exfalso; omega))) | refine stq ?_ | fail))
        all_goals (conv => whnf)
        refine ⟨k + 1, (x :: xs) ++ [6], ⟨by omega, by rw [h4, List.replicate_succ']; simp⟩, by omega, ?_⟩
        exact Lf.of2 [(0, _)] [] (by (repeat (first | exact Ents.nil | refine Ents.cons rfl (by first | exact Rd.sl' rfl (by simp) (by simp) | exact rdA | fail) ?_ | fail)); (first | done | fail)) (by (repeat (first | exact Bxs.nil | refine Bxs.cons rfl rfl rfl (by first | exact Rb.cells (Rds.eqs (app_cells (by intro _; rfl) (x :: xs) _) (noBoxs_flat (by intro _; rfl) _)) rfl | exact rbB | exact Rb.cells (by (repeat (first | exact Rds.nil | refine Rds.cons (by first | exact Rd.sl' rfl (by simp) (by simp) | exact rdA | fail) ?_ | fail)); (first | done | fail)) rfl | exact rbC | fail) ?_ | fail)); (first | done | fail)) rfl rfl
      · have hkk : k = b % 30 := by omega
        subst hkk
        repeat' ((conv => whnf) <;> (first | refine SeqV.go mixed T0 ?_ | exact True.intro | (refine Br.mk (fun _ => ?_) (fun _ => ?_) <;> (try (exfalso; omega))) | refine stq ?_ | refine Cll.pu kind1.tab ?_ | fail))
        all_goals (conv => whnf)
        refine LoopV.by mixed T0 (fun m : Nat => ⟨tmp 66 [(7, i64 ((b % 30 : Nat) : Int)), (8, ints (x :: xs)), (9, i64 (0 : Int)), (11, .ptr 1 0), (12, i64 ((m : Int) + 1))], ⟨2,[(1, .cells [strs cl1, ints (rs1.map (·.act)), intss (toII LN1), intss (toII LM1), intss (toII RN1), intss (toII RM1)] true)]⟩⟩)
          (fun m => m = 0 ∨ m + 1 ≤ b % 30) (fun m => b % 30 - m) 0 (by omega) ?_ ?_
        · exact Lf.of2 [(1, _)] [0] (by (repeat (first | exact Ents.nil | refine Ents.cons rfl (by first | exact frz_i64 (l := x :: xs) rfl rfl | exact rdA | fail) ?_ | fail)); (first | done | fail)) (by (repeat (first | exact Bxs.nil | refine Bxs.cons rfl rfl rfl (by first | exact rbB | exact Rb.cells (by (repeat (first | exact Rds.nil | refine Rds.cons (by first | exact frz_i64 (l := x :: xs) rfl rfl | exact rdA | fail) ?_ | fail)); (first | done | fail)) rfl | exact rbC | fail) ?_ | fail)); (first | done | fail)) rfl rfl
        intro m h5
        have ht : ((m : Int) + 1).tmod 2 = (((m + 1) % 2 : Nat) : Int) := rfl
        by_cases hm : m + 1 < b % 30
        · obtain ⟨A, B, hd, hp⟩ : ∃ A B : Int, Pu Tryz.prog 25 [tblD t1, ints (x :: xs), i64 ((0 : Int) + ((m : Int) + 1))] (.tup [i64 A, i64 B]) ∧ (A = 2 ↔ (m + 1) % 2 = 0) := by
            have hr := region_ok (pre := []) (.inl rfl) (n := b % 30) (m := m) (by omega) hm
            have hd := bDecide_c (k := ([] : List Int).length + (m + 1)) kind1.ok (by simp; omega) hr.2 (by simp; omega)
            rw [← h4] at hd hr
            exact ⟨_, _, hd, hr.1⟩
          repeat' ((conv => whnf) <;> (first | refine SeqV.go mixed T0 ?_ | exact True.intro | (refine Br.mk (fun _ => ?_) (fun _ => ?_) <;> (try (exfalso; omega))) | refine stq ?_ | refine Cll.pu hd ?_ | fail))
          all_goals (conv => whnf)
          all_goals first
            | (exfalso; omega)
            | (refine ⟨m + 1, by omega, by omega, ?_⟩
               exact Lf.of2 [(1, _)] [] enA bxA rfl rfl)
        · repeat' ((conv => whnf) <;> (first | refine SeqV.go mixed T0 ?_ | exact True.intro | (refine Br.mk (fun _ => ?_) (fun _ => ?_) <;> (try (exfalso; omega))) | refine stq ?_ | refine Cll.pu awake_c ?_ | fail))
          all_goals (conv => whnf)
          exact RetV.same rfl rfl
  · have hc0 : a % 16 < 15 ∧ a % 16 ≠ 6 := by omega
    refine LoopV.by2 mixed T0 (fun (k : Nat) (o : List Int) => ⟨tmp 66 [(5, i64 6), (7, i64 ((b % 30 : Nat) : Int)), (8, ownD 0 1 o), (9, i64 (1 : Int)), (10, i64 (k : Int))], ⟨1, ownB 0 (fun x => [i64 x]) o⟩⟩)
      (fun k o => k ≤ b % 30 ∧ o = [((a % 16 : Nat) : Int)] ++ List.replicate k 6) (fun k _ => b % 30 - k) 0 [((a % 16 : Nat) : Int)] ⟨by omega, by simp⟩ ?_ ?_
    · exact Lf.of2 [(0, _)] [] (by (repeat (first | exact Ents.nil | refine Ents.cons rfl (by first | exact Rd.int hn | exact Rd.int (by simp) | exact rdA | fail) ?_ | fail)); (first | done | fail)) (by (repeat (first | exact Bxs.nil | refine Bxs.cons rfl rfl rfl (by first | exact Rb.cells (Rds.cons (Rd.int hc) Rds.nil) rfl | exact rbB | exact Rb.cells (by (repeat (first | exact Rds.nil | refine Rds.cons (by first | exact Rd.int hn | exact Rd.int (by simp) | exact rdA | fail) ?_ | fail)); (first | done | fail)) rfl | exact rbC | fail) ?_ | fail)); (first | done | fail)) rfl rfl
    intro k o ⟨h3, h4⟩
    cases o with
    | nil =>
      exact absurd (congrArg List.length h4) (by simp)
    | cons x xs =>
      have hk : (x :: xs).length ≤ 1000 := by rw [h4]; simp; omega
      by_cases hkn : k < b % 30
      · repeat' ((conv => whnf) <;> (first | refine SeqV.go mixed T0 ?_ | exact True.intro | (refine Br.mk (fun _ => ?_) (fun _ => ?_) <;> (try (exfalso; omega))) | refine stq ?_ | fail))
        all_goals (conv => whnf)
        refine ⟨k + 1, (x :: xs) ++ [6], ⟨by omega, by rw [h4, List.replicate_succ']; simp⟩, by omega, ?_⟩
        exact Lf.of2 [(0, _)] [] (by (repeat (first | exact Ents.nil | refine Ents.cons rfl (by first | exact Rd.sl' rfl (by simp) (by simp) | exact rdA | fail) ?_ | fail)); (first | done | fail)) (by (repeat (first | exact Bxs.nil | refine Bxs.cons rfl rfl rfl (by first | exact Rb.cells (Rds.eqs (app_cells (by intro _; rfl) (x :: xs) _) (noBoxs_flat (by intro _; rfl) _)) rfl | exact rbB | exact Rb.cells (by (repeat (first | exact Rds.nil | refine Rds.cons (by first | exact Rd.sl' rfl (by simp) (by simp) | exact rdA | fail) ?_ | fail)); (first | done | fail)) rfl | exact rbC | fail) ?_ | fail)); (first | done | fail)) rfl rfl
      · have hkk : k = b % 30 := by omega
        subst hkk
        repeat' ((conv => whnf) <;> (first | refine SeqV.go mixed T0 ?_ | exact True.intro | (refine Br.mk (fun _ => ?_) (fun _ => ?_) <;> (try (exfalso; omega))) | refine stq ?_ | refine Cll.pu kind1.tab ?_ | fail))
        all_goals (conv => whnf)
        refine LoopV.by mixed T0 (fun m : Nat => ⟨tmp 66 [(7, i64 ((b % 30 : Nat) : Int)), (8, ints (x :: xs)), (9, i64 (1 : Int)), (11, .ptr 1 0), (12, i64 ((m : Int) + 1))], ⟨2,[(1, .cells [strs cl1, ints (rs1.map (·.act)), intss (toII LN1), intss (toII LM1), intss (toII RN1), intss (toII RM1)] true)]⟩⟩)
          (fun m => m = 0 ∨ m + 1 ≤ b % 30) (fun m => b % 30 - m) 0 (by omega) ?_ ?_
        · exact Lf.of2 [(1, _)] [0] (by (repeat (first | exact Ents.nil | refine Ents.cons rfl (by first | exact frz_i64 (l := x :: xs) rfl rfl | exact rdA | fail) ?_ | fail)); (first | done | fail)) (by (repeat (first | exact Bxs.nil | refine Bxs.cons rfl rfl rfl (by first | exact rbB | exact Rb.cells (by (repeat (first | exact Rds.nil | refine Rds.cons (by first | exact frz_i64 (l := x :: xs) rfl rfl | exact rdA | fail) ?_ | fail)); (first | done | fail)) rfl | exact rbC | fail) ?_ | fail)); (first | done | fail)) rfl rfl
        intro m h5
        have ht : ((m : Int) + 1).tmod 2 = (((m + 1) % 2 : Nat) : Int) := rfl
        by_cases hm : m + 1 < b % 30
        · obtain ⟨A, B, hd, hp⟩ : ∃ A B : Int, Pu Tryz.prog 25 [tblD t1, ints (x :: xs), i64 ((1 : Int) + ((m : Int) + 1))] (.tup [i64 A, i64 B]) ∧ (A = 2 ↔ (m + 1) % 2 = 0) := by
            have hr := region_ok (pre := [((a % 16 : Nat) : Int)]) (.inr ⟨a % 16, hc0.1, hc0.2, rfl⟩) (n := b % 30) (m := m) (by omega) hm
            have hd := bDecide_c (k := ([((a % 16 : Nat) : Int)] : List Int).length + (m + 1)) kind1.ok (by simp; omega) hr.2 (by simp; omega)
            rw [← h4] at hd hr
            exact ⟨_, _, hd, hr.1⟩
          repeat' ((conv => whnf) <;> (first | refine SeqV.go mixed T0 ?_ | exact True.intro | (refine Br.mk (fun _ => ?_) (fun _ => ?_) <;> (try (exfalso; omega))) | refine stq ?_ | refine Cll.pu hd ?_ | fail))
          all_goals (conv => whnf)
          all_goals first
            | (exfalso; omega)
            | (refine ⟨m + 1, by omega, by omega, ?_⟩
               exact Lf.of2 [(1, _)] [] enA bxA rfl rfl)
        · repeat' ((conv => whnf) <;> (first | refine SeqV.go mixed T0 ?_ | exact True.intro | (refine Br.mk (fun _ => ?_) (fun _ => ?_) <;> (try (exfalso; omega))) | refine stq ?_ | refine Cll.pu awake_c ?_ | fail))
          all_goals (conv => whnf)
          exact RetV.same rfl rfl
  · skip
    refine LoopV.by2 mixed T0 (fun (k : Nat) (o : List Int) => ⟨tmp 66 [(5, i64 6), (7, i64 ((b % 30 : Nat) : Int)), (8, ownD 0 1 o), (9, i64 (0 : Int)), (10, i64 (k : Int))], ⟨1, ownB 0 (fun x => [i64 x]) o⟩⟩)
      (fun k o => k ≤ b % 30 ∧ o = [] ++ List.replicate k 6) (fun k _ => b % 30 - k) 0 [] ⟨by omega, by simp⟩ ?_ ?_
    · exact Lf.of2 [] [] (by (repeat (first | exact Ents.nil | refine Ents.cons rfl (by first | exact Rd.int hn | exact Rd.int (by simp) | exact rdA | fail) ?_ | fail)); (first | done | fail)) (by (repeat (first | exact Bxs.nil | refine Bxs.cons rfl rfl rfl (by first | exact Rb.cells (Rds.cons (Rd.int hc) Rds.nil) rfl | exact rbB | exact Rb.cells (by (repeat (first | exact Rds.nil | refine Rds.cons (by first | exact Rd.int hn | exact Rd.int (by simp) | exact rdA | fail) ?_ | fail)); (first | done | fail)) rfl | exact rbC | fail) ?_ | fail)); (first | done | fail)) rfl rfl
    intro k o ⟨h3, h4⟩
    cases o with
    | nil =>
      have hk0 : k = 0 := by simpa using (congrArg List.length h4).symm
      repeat' ((conv => whnf) <;> (first | refine SeqV.go mixed T0 ?_ | exact True.intro | (refine Br.mk (fun _ => ?_) (fun _ => ?_) <;> (try (exfalso; omega))) | refine stq ?_ | refine Cll.pu kind1.tab ?_ | refine LoopV.times mixed T0 1 ?_ | refine Cll.pu awake_c ?_ | fail))
      all_goals (conv => whnf)
      all_goals first
        | exact RetV.same rfl rfl
        | (exfalso; omega)
        | (refine ⟨k + 1, ([] : List Int) ++ [6], ⟨by omega, by rw [hk0]; rfl⟩, by omega, ?_⟩
           exact Lf.of2 [(0, _)] [] enA bxA rfl rfl)
    | cons x xs =>
      have hk : (x :: xs).length ≤ 1000 := by rw [h4]; simp; omega
      by_cases hkn : k < b % 30
      · repeat' ((conv => whnf) <;> (first | refine SeqV.go mixed T0 ?_ | exact True.intro | (refine Br.mk (fun _ => ?_) (fun _ => ?_) <;> (try (exfalso; omega))) | refine stq ?_ | fail))
        all_goals (conv => whnf)
        refine ⟨k + 1, (x :: xs) ++ [6], ⟨by omega, by rw [h4, List.replicate_succ']; simp⟩, by omega, ?_⟩
        exact Lf.of2 [(0, _)] [] (by (repeat (first | exact Ents.nil | refine Ents.cons rfl (by first | exact Rd.sl' rfl (by simp) (by simp) | exact rdA | fail) ?_ | fail)); (first | done | fail)) (by (repeat (first | exact Bxs.nil | refine Bxs.cons rfl rfl rfl (by first | exact Rb.cells (Rds.eqs (app_cells (by intro _; rfl) (x :: xs) _) (noBoxs_flat (by intro _; rfl) _)) rfl | exact rbB | exact Rb.cells (by (repeat (first | exact Rds.nil | refine Rds.cons (by first | exact Rd.sl' rfl (by simp) (by simp) | exact rdA | fail) ?_ | fail)); (first | done | fail)) rfl | exact rbC | fail) ?_ | fail)); (first | done | fail)) rfl rfl
      · have hkk : k = b % 30 := by omega
        subst hkk
        repeat' ((conv => whnf) <;> (first | refine SeqV.go mixed T0 ?_ | exact True.intro | (refine Br.mk (fun _ => ?_) (fun _ => ?_) <;> (try (exfalso; omega))) | refine stq ?_ | refine Cll.pu kind1.tab ?_ | fail))
        all_goals (conv => whnf)
        refine LoopV.by mixed T0 (fun m : Nat => ⟨tmp 66 [(7, i64 ((b % 30 : Nat) : Int)), (8, ints (x :: xs)), (9, i64 (0 : Int)), (11, .ptr 1 0), (12, i64 ((m : Int) + 1))], ⟨2,[(1, .cells [strs cl1, ints (rs1.map (·.act)), intss (toII LN1), intss (toII LM1), intss (toII RN1), intss (toII RM1)] true)]⟩⟩)
          (fun m => m = 0 ∨ m + 1 ≤ b % 30) (fun m => b % 30 - m) 0 (by omega) ?_ ?_
        · exact Lf.of2 [(1, _)] [0] (by (repeat (first | exact Ents.nil | refine Ents.cons rfl (by first | exact frz_i64 (l := x :: xs) rfl rfl | exact rdA | fail) ?_ | fail)); (first | done | fail)) (by (repeat (first | exact Bxs.nil | refine Bxs.cons rfl rfl rfl (by first | exact rbB | exact Rb.cells (by (repeat (first | exact Rds.nil | refine Rds.cons (by first | exact frz_i64 (l := x :: xs) rfl rfl | exact rdA | fail) ?_ | fail)); (first | done | fail)) rfl | exact rbC | fail) ?_ | fail)); (first | done | fail)) rfl rfl
        intro m h5
        have ht : ((m : Int) + 1).tmod 2 = (((m + 1) % 2 : Nat) : Int) := rfl
        by_cases hm : m + 1 < b % 30
        · obtain ⟨A, B, hd, hp⟩ : ∃ A B : Int, Pu Tryz.prog 25 [tblD t1, ints (x :: xs), i64 ((0 : Int) + ((m : Int) + 1))] (.tup [i64 A, i64 B]) ∧ (A = 2 ↔ (m + 1) % 2 = 0) := by
            have hr := region_ok (pre := []) (.inl rfl) (n := b % 30) (m := m) (by omega) hm
            have hd := bDecide_c (k := ([] : List Int).length + (m + 1)) kind1.ok (by simp; omega) hr.2 (by simp; omega)
            rw [← h4] at hd hr
            exact ⟨_, _, hd, hr.1⟩
          repeat' ((conv => whnf) <;> (first | refine SeqV.go mixed T0 ?_ | exact True.intro | (refine Br.mk (fun _ => ?_) (fun _ => ?_) <;> (try (exfalso; omega))) | refine stq ?_ | refine Cll.pu hd ?_ | fail))
          all_goals (conv => whnf)
          all_goals first
            | (exfalso; omega)
            | (refine ⟨m + 1, by omega, by omega, ?_⟩
               exact Lf.of2 [(1, _)] [] enA bxA rfl rfl)
        · repeat' ((conv => whnf) <;> (first | refine SeqV.go mixed T0 ?_ | exact True.intro | (refine Br.mk (fun _ => ?_) (fun _ => ?_) <;> (try (exfalso; omega))) | refine stq ?_ | refine Cll.pu awake_c ?_ | fail))
          all_goals (conv => whnf)
          exact RetV.same rfl rfl
end Go.Proofs.YtbjngeioomjklaaGreatDoor
