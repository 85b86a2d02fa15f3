/-
  Tables by numbers: when they are valid, and what they decide.
-/
import Derived.Test.YtbjngeioomjklaaGreatDoorD2
import Derived.Test.YtbjngeioomjklaaGreatDoorQ3
namespace Go.Proofs.YtbjngeioomjklaaGreatDoor
open Go Go.Am
set_option maxRecDepth 100000
set_option linter.unusedSectionVars false
variable [GT]
def toI (l : List Nat) : List Int := l.map fun k : Nat => (k : Int)
def toII (l : List (List Nat)) : List (List Int) := l.map toI
theorem nats_toI (l : List Nat) : nats l = ints (toI l) := by simp [lst, toI, Function.comp_def]
theorem natss_toII (l : List (List Nat)) : natss l = intss (toII l) := by
  have : nats = fun l => ints (toI l) := funext nats_toI
  simp only [natss, this, intss]
  simp [lst, toII, Function.comp_def]
def tbl (cl : List Str) (acts : List Int) (LN LM RN RM : List (List Nat)) : Tbl := ⟨cl, acts, ⟨toII LN, toII LM⟩, ⟨toII RN, toII RM⟩⟩
theorem tbl_D (cl : List Str) (acts : List Int) (LN LM RN RM : List (List Nat)) : D.agg [strs cl, ints acts, natss LN, natss LM, natss RN, natss RM] = tblD (tbl cl acts LN LM RN RM) := by
  rw [natss_toII, natss_toII, natss_toII, natss_toII]; rfl
def ascB (r : Nat) : Nat → List Nat → Bool
  | _, [] => true
  | lo, x :: l => Nat.ble lo x && Nat.blt x r && ascB r (x + 1) l
theorem ascB_ok {r : Nat} : ∀ {m : List Nat} {lo : Nat}, ascB r lo m = true → ∀ j (h : j < m.length), m[j] < r ∧ lo ≤ m[j] ∧ (j ≠ 0 → m[j - 1]'(by omega) < m[j])
  | [], lo, hb, j, h => by simp at h
  | x :: l, lo, hb, j, h => by
    simp only [ascB, Bool.and_eq_true, Nat.ble_eq, Nat.blt_eq] at hb
    obtain ⟨⟨h1, h2⟩, h3⟩ := hb
    cases j with
    | zero => exact ⟨h2, h1, fun e => absurd rfl e⟩
    | succ j =>
      have hj : j < l.length := by simpa using h
      have ih := ascB_ok h3 j hj
      refine ⟨by simpa using ih.1, by simp; omega, fun _ => ?_⟩
      cases j with
      | zero => simp; omega
      | succ j => simpa using ih.2.2 (by omega)
def sdB (n r : Nat) (N M : List (List Nat)) : Bool :=
  Nat.ble n 1000 && Nat.ble 1 N.length && Nat.ble N.length 400 && Nat.beq M.length N.length && N.all (fun row => Nat.beq row.length n && row.all fun x => Nat.blt x N.length) && M.all fun m => ascB r 0 m && Nat.ble m.length 1000
theorem sd_of {n r : Nat} {N M : List (List Nat)} (h : sdB n r N M = true) : Sd ⟨toII N, toII M⟩ n r ∧ Atm.ok ⟨toII N, toII M⟩ := by
  simp only [sdB, Bool.and_eq_true, Nat.ble_eq, Nat.beq_eq, List.all_eq_true, Nat.blt_eq] at h
  obtain ⟨⟨⟨⟨⟨h0, h1⟩, h2⟩, h3⟩, h4⟩, h5⟩ := h
  have hn : (toII N).length = N.length := by simp [toII]
  have hm : (toII M).length = M.length := by simp [toII]
  refine ⟨⟨by simpa [hn] using h1, by simpa [hn] using h2, by rw [hm, hn, h3], fun i hi => ?_⟩, ⟨by show (toII N).length ≤ _; omega, by show (toII M).length ≤ _; omega, fun i hi => ?_, fun i hi => ?_⟩⟩
  · have hi' : i < N.length := by simpa [hn] using hi
    have e : (toII N)[i]'hi = toI N[i] := by simp [toII]
    have r1 := h4 N[i] (List.getElem_mem hi')
    have hiM : i < M.length := by omega
    have e2 : (toII M).getD i [] = toI M[i] := by simp [toII, List.getD, hiM]
    have r2 := (h5 M[i] (List.getElem_mem hiM)).1
    refine ⟨by show (((toII N)[i]).length : Int) = n; rw [e]; simp [toI, r1.1], fun j hj => ?_, fun j hj => ?_⟩
    · have hj' : j < N[i].length := by
        have : ((toII N)[i]'hi).length = N[i].length := by rw [e]; simp [toI]
        have hj2 : j < ((toII N)[i]'hi).length := hj
        omega
      have e3 : ((toII N)[i]'hi)[j]'hj = (N[i][j] : Int) := by simp [toII, toI]
      have := r1.2 N[i][j] (List.getElem_mem hj')
      show 0 ≤ ((toII N)[i]'hi)[j]'hj ∧ ((toII N)[i]'hi)[j]'hj < ((toII N).length : Int)
      rw [e3, hn]
      omega
    · have hj1 : j < (toI M[i]).length := by rw [← e2]; exact hj
      have hj' : j < M[i].length := by simpa [toI] using hj1
      have q := ascB_ok r2 j hj'
      have e3 : ∀ (m : List Int) (hm : m = toI M[i]) (h : j < m.length), m[j] = (M[i][j] : Int) := by
        intro m hm h; subst hm; simp [toI]
      have e4 := e3 _ e2 hj
      refine ⟨?_, by show _ < (r : Int); rw [e4]; omega⟩
      rw [e4]
      unfold lastM
      split
      · omega
      · rename_i hj0
        have q2 := q.2.2 hj0
        rw [e2]
        have : (toI M[i]).getD (j - 1) 0 = (M[i][j - 1] : Int) := by simp [toI, List.getD, show j - 1 < M[i].length from by omega]
        rw [this]
        omega
  · have hi' : i < N.length := by simpa [hn] using hi
    have e : (toII N)[i]'hi = toI N[i] := by simp [toII]
    have r1 := h4 N[i] (List.getElem_mem hi')
    show ((toII N)[i]'hi).length ≤ _
    rw [e]
    have : (toI N[i]).length = n := by simp [toI, r1.1]
    omega
  · have hi' : i < M.length := by simpa [hm] using hi
    have e : (toII M)[i]'hi = toI M[i] := by simp [toII]
    have r1 := (h5 M[i] (List.getElem_mem hi')).2
    show ((toII M)[i]'hi).length ≤ _
    rw [e]
    have : (toI M[i]).length = M[i].length := by simp [toI]
    omega
def nvB (l : List Str) : Bool := Nat.ble 1 l.length && Nat.ble l.length 60 && (List.range l.length).all fun i => match l[i]? with | some s => nameB s && Nat.ble s.length 32 && !memB s (l.take i) | none => false
theorem nv_of {l : List Str} (h : nvB l = true) : NV l := by
  simp only [nvB, Bool.and_eq_true, Nat.ble_eq, List.all_eq_true] at h
  refine ⟨h.1.1, h.1.2, fun i hi => ?_⟩
  have := h.2 i (List.mem_range.2 hi)
  rw [List.getElem?_eq_getElem hi] at this
  simp only [Bool.and_eq_true, Nat.ble_eq, Bool.not_eq_true', ← Bool.not_eq_true, memB_iff] at this
  have h2 := nameB_iff.1 this.1.1
  exact ⟨⟨⟨h2.2.1, this.1.2, h2.1⟩, h2.2.2⟩, this.2⟩
theorem tv_of {cl : List Str} {acts : List Int} {LN LM RN RM : List (List Nat)} (h1 : NV cl) (h2 : (Nat.ble acts.length 100 && acts.all fun a => decide (1 ≤ a ∧ a ≤ 3)) = true) (hL : sdB cl.length acts.length LN LM = true) (hR : sdB cl.length acts.length RN RM = true) : TV (tbl cl acts LN LM RN RM) ∧ (tbl cl acts LN LM RN RM).ok := by
  simp only [Bool.and_eq_true, Nat.ble_eq, List.all_eq_true, decide_eq_true_eq] at h2
  have hl := sd_of hL
  have hr := sd_of hR
  refine ⟨⟨h1, h2.1, fun i hi => h2.2 _ (List.getElem_mem hi), hl.1, hr.1⟩, ⟨?_, fun i hi => ?_, ?_, hl.2, hr.2⟩⟩
  · have := h1.2.1
    show cl.length ≤ _
    omega
  · have := (h1.2.2 i hi).1.1.2.1
    show cl[i].length ≤ _
    omega
  · show acts.length ≤ _
    omega
def memN (x : Nat) : List Nat → Bool
  | [] => false
  | y :: l => Nat.beq x y || memN x l
theorem memN_iff {x : Nat} : ∀ {l : List Nat}, memN x l = true ↔ x ∈ l
  | [] => by simp [memN]
  | y :: l => by simp only [memN, Bool.or_eq_true, Nat.beq_eq, memN_iff (l := l), List.mem_cons]
def fcN : List Nat → List Nat → Option Nat
  | [], _ => none
  | x :: a, b => bif memN x b then some x else fcN a b
theorem toI_mem {x : Nat} {l : List Nat} : ((x : Int) ∈ toI l) ↔ x ∈ l := by
  simp only [toI, List.mem_map]
  exact ⟨fun ⟨y, hy, e⟩ => by have : y = x := by omega
                              subst this; exact hy, fun h => ⟨x, h, rfl⟩⟩
theorem fc_nat : ∀ {a b : List Nat}, fc (toI a) (toI b) = (fcN a b).map fun k : Nat => (k : Int)
  | [], b => rfl
  | x :: a, b => by
    have ih := fc_nat (a := a) (b := b)
    unfold fc at ih ⊢
    show List.find? _ ((x : Int) :: toI a) = _
    rw [List.find?_cons]
    by_cases h : x ∈ b
    · have h1 : memN x b = true := memN_iff.2 h
      simp only [fcN, h1, cond_true, Option.map_some, toI_mem, h, decide_true]
    · have h1 : memN x b = false := by
        cases hb : memN x b with
        | false => rfl
        | true => exact absurd (memN_iff.1 hb) h
      simp only [fcN, h1, cond_false, toI_mem, h, decide_false]
      exact ih
def actN (acts : List Int) (LM RM : List (List Nat)) (x y : Nat) : Int :=
  match fcN (LM.getD x []) (RM.getD y []) with
  | some r => acts.getD r 0
  | none => 2
theorem toII_getD {l : List (List Nat)} {i : Nat} : (toII l).getD i [] = toI (l.getD i []) := by
  simp only [toII, List.getD, List.getElem?_map]
  cases l[i]? <;> rfl
theorem toI_getD {l : List Nat} {i : Nat} : (toI l).getD i 0 = ((l.getD i 0 : Nat) : Int) := by
  simp only [toI, List.getD, List.getElem?_map]
  cases l[i]? <;> rfl
theorem nxt_nat {N : List (List Nat)} {s c : Nat} : nxt (toII N) (s : Int) (c : Int) = (((N.getD s []).getD c 0 : Nat) : Int) := by
  unfold nxt
  rw [Int.toNat_natCast, Int.toNat_natCast, toII_getD, toI_getD]
theorem act_nat {cl : List Str} {acts : List Int} {LN LM RN RM : List (List Nat)} {x y : Nat} : decA (tbl cl acts LN LM RN RM) (decO (tbl cl acts LN LM RN RM) (x : Int) (y : Int)) = actN acts LM RM x y := by
  unfold decO
  show decA (tbl cl acts LN LM RN RM) (fc ((toII LM).getD (x : Int).toNat []) ((toII RM).getD (y : Int).toNat [])) = _
  rw [Int.toNat_natCast, Int.toNat_natCast, toII_getD, toII_getD, fc_nat]
  unfold actN
  cases fcN (LM.getD x []) (RM.getD y []) with
  | none => rfl
  | some r => simp [decA, tbl]
def dd : List Nat → List Nat
  | [] => []
  | x :: l => bif memN x (dd l) then dd l else x :: dd l
theorem mem_dd {x : Nat} : ∀ {l : List Nat}, x ∈ l → x ∈ dd l
  | y :: l, h => by
    simp only [dd]
    cases hy : memN y (dd l) with
    | true =>
      rw [cond_true]
      rcases List.mem_cons.1 h with rfl | h
      · exact memN_iff.1 hy
      · exact mem_dd h
    | false =>
      rw [cond_false]
      rcases List.mem_cons.1 h with rfl | h
      · simp
      · exact List.mem_cons_of_mem _ (mem_dd h)
def colD (N : List (List Nat)) (c : Nat) : List Nat := dd (N.map fun row => row.getD c 0)
theorem colD_mem {N : List (List Nat)} {c s : Nat} (h : s < N.length) : (N.getD s []).getD c 0 ∈ colD N c := by
  refine mem_dd (List.mem_map.2 ⟨N[s], List.getElem_mem h, ?_⟩)
  rw [getD_get h]
section
variable {cl : List Str} {acts : List Int} {LN LM RN RM : List (List Nat)}
theorem left_st (hv : TV (tbl cl acts LN LM RN RM)) {l : List Int} (hc : CL l cl.length) {k : Nat} (hk : k ≤ l.length) : ∃ x : Nat, x < LN.length ∧ stL (tbl cl acts LN LM RN RM).left.next l k = x := by
  have := stL_range hv.2.2.2.1 hc k hk
  have e : (tbl cl acts LN LM RN RM).left.next.length = LN.length := by simp [tbl, toII]
  exact ⟨(stL (tbl cl acts LN LM RN RM).left.next l k).toNat, by omega, by omega⟩
theorem right_st (hv : TV (tbl cl acts LN LM RN RM)) {l : List Int} (hc : CL l cl.length) {k : Nat} (hk : k ≤ l.length) : ∃ x : Nat, x < RN.length ∧ stR (tbl cl acts LN LM RN RM).right.next l k = x := by
  have := stR_range hv.2.2.2.2 hc k hk
  have e : (tbl cl acts LN LM RN RM).right.next.length = RN.length := by simp [tbl, toII]
  exact ⟨(stR (tbl cl acts LN LM RN RM).right.next l k).toNat, by omega, by omega⟩
theorem left_col (hv : TV (tbl cl acts LN LM RN RM)) {l : List Int} (hc : CL l cl.length) {k c : Nat} (hk : k < l.length) (e : l[k] = (c : Int)) : ∃ x ∈ colD LN c, stL (tbl cl acts LN LM RN RM).left.next l (k + 1) = (x : Int) := by
  obtain ⟨y, h1, h2⟩ := left_st hv hc (k := k) (by omega)
  refine ⟨_, colD_mem (c := c) h1, ?_⟩
  simp only [stL]
  rw [h2, getD_get hk, e]
  exact nxt_nat
theorem right_col (hv : TV (tbl cl acts LN LM RN RM)) {l : List Int} (hc : CL l cl.length) {k c : Nat} (hk : k < l.length) (e : l[k] = (c : Int)) : ∃ x ∈ colD RN c, stR (tbl cl acts LN LM RN RM).right.next l (l.length - k) = (x : Int) := by
  obtain ⟨y, h1, h2⟩ := right_st hv hc (k := l.length - k - 1) (by omega)
  refine ⟨_, colD_mem (c := c) h1, ?_⟩
  rw [show l.length - k = (l.length - k - 1) + 1 from by omega]
  simp only [stR]
  rw [h2, getD_get (show l.length - 1 - (l.length - k - 1) < l.length by omega)]
  have e' : l[l.length - 1 - (l.length - k - 1)]'(by omega) = (c : Int) := by
    rw [← e]; congr 1; omega
  rw [e']
  exact nxt_nat
noncomputable abbrev actAt (t : Tbl) (l : List Int) (k : Nat) : Int := decA t (decO t (stL t.left.next l k) (stR t.right.next l (l.length - k)))
def allP (xs ys : List Nat) (p : Nat → Nat → Bool) : Bool := xs.all fun x => ys.all fun y => p x y
theorem allP_ok {xs ys : List Nat} {p : Nat → Nat → Bool} (h : allP xs ys p = true) {x y : Nat} (hx : x ∈ xs) (hy : y ∈ ys) : p x y = true := by
  simp only [allP, List.all_eq_true] at h
  exact h x hx y hy
def pairB (acts : List Int) (LN LM RN RM : List (List Nat)) (cr lf : Nat) : Bool :=
  allP (colD LN cr) (colD RN lf) (fun x y => ibe (actN acts LM RM x y) 1) && allP (colD LN lf) (List.range RN.length) (fun x y => !ibe (actN acts LM RM x y) 1)
theorem pair_ok (hv : TV (tbl cl acts LN LM RN RM)) {cr lf : Nat} (hb : pairB acts LN LM RN RM cr lf = true) {l : List Int} (hc : CL l cl.length) {k : Nat} (hk : k + 1 < l.length) :
    (l[k] = (cr : Int) → l[k + 1] = (lf : Int) → actAt (tbl cl acts LN LM RN RM) l (k + 1) = 1) ∧ (l[k] = (lf : Int) → actAt (tbl cl acts LN LM RN RM) l (k + 1) ≠ 1) := by
  simp only [pairB, Bool.and_eq_true] at hb
  refine ⟨fun h1 h2 => ?_, fun h1 => ?_⟩
  · obtain ⟨x, m1, e1⟩ := left_col hv hc (by omega) h1
    obtain ⟨y, m2, e2⟩ := right_col hv hc hk h2
    have := allP_ok hb.1 m1 m2
    rw [actAt, e1, e2, act_nat]
    exact ibe_iff.1 this
  · obtain ⟨x, m1, e1⟩ := left_col hv hc (by omega) h1
    obtain ⟨y, m2, e2⟩ := right_st hv hc (k := l.length - (k + 1)) (by omega)
    have := allP_ok hb.2 m1 (List.mem_range.2 m2)
    rw [actAt, e1, e2, act_nat]
    intro h
    rw [ibe_iff.2 h] at this
    cases this
def entD (N : List (List Nat)) (n : Nat) : List Nat := dd ((List.range n).flatMap fun c => colD N c)
def endB (acts : List Int) (LN LM RN RM : List (List Nat)) (n : Nat) : Bool := (entD RN n).all (fun y => !ibe (actN acts LM RM 0 y) 1) && (entD LN n).all fun x => !ibe (actN acts LM RM x 0) 1
theorem end_ok (hv : TV (tbl cl acts LN LM RN RM)) (hb : endB acts LN LM RN RM cl.length = true) {l : List Int} (hc : CL l cl.length) (hl : 0 < l.length) : actAt (tbl cl acts LN LM RN RM) l 0 ≠ 1 ∧ actAt (tbl cl acts LN LM RN RM) l l.length ≠ 1 := by
  simp only [endB, Bool.and_eq_true, List.all_eq_true] at hb
  have key : ∀ k, k < l.length → ∃ c : Nat, c < cl.length ∧ ∀ h : k < l.length, l[k] = (c : Int) := fun k hk => by
    have := hc k hk
    exact ⟨(l[k]).toNat, by omega, fun _ => by omega⟩
  refine ⟨?_, ?_⟩
  · obtain ⟨c, h1, h2⟩ := key 0 hl
    obtain ⟨y, m2, e2⟩ := right_col hv hc hl (h2 hl)
    have := hb.1 y (mem_dd (List.mem_flatMap.2 ⟨c, List.mem_range.2 h1, m2⟩))
    rw [actAt, show stL (tbl cl acts LN LM RN RM).left.next l 0 = ((0 : Nat) : Int) from rfl, e2, act_nat]
    intro h
    rw [ibe_iff.2 h] at this
    cases this
  · obtain ⟨c, h1, h2⟩ := key (l.length - 1) (by omega)
    obtain ⟨x, m1, e1⟩ := left_col hv hc (k := l.length - 1) (by omega) (h2 (by omega))
    rw [show l.length - 1 + 1 = l.length from by omega] at e1
    have := hb.2 x (mem_dd (List.mem_flatMap.2 ⟨c, List.mem_range.2 h1, m1⟩))
    rw [actAt, e1, Nat.sub_self, show stR (tbl cl acts LN LM RN RM).right.next l 0 = ((0 : Nat) : Int) from rfl, act_nat]
    intro h
    rw [ibe_iff.2 h] at this
    cases this
def spaceB (acts : List Int) (LN LM RN RM : List (List Nat)) (sp le : Nat) : Bool :=
  allP (colD LN sp) (colD RN sp) (fun x y => ibe (actN acts LM RM x y) 1) && allP (colD LN sp) (colD RN le) (fun x y => ibe (actN acts LM RM x y) 2)
theorem space_ok (hv : TV (tbl cl acts LN LM RN RM)) {sp le : Nat} (hb : spaceB acts LN LM RN RM sp le = true) {l : List Int} (hc : CL l cl.length) {k : Nat} (hk : k + 1 < l.length) :
    (l[k] = (sp : Int) → l[k + 1] = (sp : Int) → actAt (tbl cl acts LN LM RN RM) l (k + 1) = 1) ∧ (l[k] = (sp : Int) → l[k + 1] = (le : Int) → actAt (tbl cl acts LN LM RN RM) l (k + 1) = 2) := by
  simp only [spaceB, Bool.and_eq_true] at hb
  refine ⟨fun h1 h2 => ?_, fun h1 h2 => ?_⟩
  · obtain ⟨x, m1, e1⟩ := left_col hv hc (by omega) h1
    obtain ⟨y, m2, e2⟩ := right_col hv hc hk h2
    have := allP_ok hb.1 m1 m2
    rw [actAt, e1, e2, act_nat]
    exact ibe_iff.1 this
  · obtain ⟨x, m1, e1⟩ := left_col hv hc (by omega) h1
    obtain ⟨y, m2, e2⟩ := right_col hv hc hk h2
    have := allP_ok hb.2 m1 m2
    rw [actAt, e1, e2, act_nat]
    exact ibe_iff.1 this
end
end Go.Proofs.YtbjngeioomjklaaGreatDoor
