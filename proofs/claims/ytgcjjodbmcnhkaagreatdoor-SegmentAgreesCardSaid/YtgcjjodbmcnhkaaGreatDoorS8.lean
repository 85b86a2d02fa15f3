/-
  Contracts of functions over data: states and actions of tables (the reference), and those of texts.
-/
import Derived.Test.YtgcjjodbmcnhkaaGreatDoorS7
namespace Go.Proofs.YtgcjjodbmcnhkaaGreatDoor
open Go Go.Am Classical
set_option maxRecDepth 100000

theorem usable_c {t : Tbl} {l : List Int} (ht : t.ok) (hx : l.length ≤ 1000) : Pu Tryz.prog 70 [tabD t, ints l] (boo (decide (CL l t.classes.length ∧ TV t))) := by
  have h1 := ht.classes
  refine Pu.of_v mixed T0 Tryz.func70 rfl rfl (by simp [noBox, noBoxs, noBox_intss, noBox_ints, noBox_strs]) ?_
  repeat' ((conv => whnf) <;> (first
    | refine SeqV.go mixed T0 ?_
    | exact True.intro
    | (refine Br.mk (fun _ => ?_) (fun _ => ?_) <;> (try (exfalso; omega)))
    | refine Get.exp rfl ?_
    | refine Idx.lst (by first | omega | assumption | exact hl _ _ | exact inK64 (by omega) (by omega) | (simp; omega) | (simp; done)) ?_
    | refine Idx.lstS (by intro _; rfl) (by first | omega | assumption | exact hl _ _ | exact inK64 (by omega) (by omega) | (simp; omega) | (simp; done)) ?_
    | refine IdxS.nat (by first | omega | assumption | exact hl _ _ | exact inK64 (by omega) (by omega) | (simp; omega) | (simp; done)) ?_
    | refine IdxO.nat (by first | omega | assumption | exact hl _ _ | exact inK64 (by omega) (by omega) | (simp; omega) | (simp; done)) ?_
    | refine QuietV.mk (by kernel_rfl) ?_
    | refine Put.exp rfl ?_
    | refine SrcV.exp rfl ?_
    | refine Chk.mk (by first | rfl | exact inK64 (by omega) (by omega) | omega | assumption) ?_
    | refine Chk.mk ⟨Nat.le_of_ble_eq_true rfl, Nat.le_of_ble_eq_true rfl⟩ ?_
    | refine Chk.grow (by intro _; rfl) 8 rfl (by omega) (by omega) ?_
    | refine Chk.room 8 rfl (by omega) (by omega) ?_
    | refine Chk.made 8 rfl (by omega) (by omega) (by omega) ?_))
  refine LoopV.by mixed T0 (fun k : Nat => ⟨tmp 29 [(1, ints l), (2, .ptr 0 0), (5, i64 (k : Int))], ⟨1, [(0, .cells [strs t.classes, ints t.actions, intss t.left.next, intss t.left.marks, intss t.right.next, intss t.right.marks] true)]⟩⟩)
    (fun k => k ≤ l.length ∧ ∀ i (h : i < l.length), i < k → 0 ≤ l[i] ∧ l[i] < t.classes.length) (fun k => l.length - k) 0 ⟨by omega, fun _ _ h => by omega⟩ ?_ ?_
  · exact Lf.of2 [(0, _)] [] (by (repeat (first | exact Ents.nil | refine Ents.cons rfl (by first | exact Rd.any | exact Rd.ptr rfl | exact Rd.map rfl | exact Rd.sl rfl | exact Rd.same rfl | exact Rd.int (by omega) | assumption | exact Rd.same (noBox_ints _) | exact Rd.same (noBox_strs _) | exact Rd.same (noBox_intss _) | exact Rd.same (noBox_spns _)) ?_ | fail)); done) (by (repeat (first | exact Bxs.nil | refine Bxs.cons rfl rfl rfl (by first | exact Rb.cells (Rds.same rfl) rfl | exact Rb.cells (Rds.same (noBoxs_map (fun _ => rfl) _)) rfl | exact Rb.cells (Rds.same (noBoxs_fill (fun _ => rfl) rfl)) rfl | exact Rb.cells (Rds.same (noBoxs_flat (fun _ => rfl) _)) rfl | exact Rb.map (Res.same (noBox_set rfl _)) | exact Rb.map (Res.same (noBox_pos _ _)) | exact Rb.map (Res.same (by simp)) | exact Rb.cells (by (repeat (first | exact Rds.nil | refine Rds.cons (by first | exact Rd.any | exact Rd.ptr rfl | exact Rd.map rfl | exact Rd.sl rfl | exact Rd.same rfl | exact Rd.int (by omega) | assumption | exact Rd.same (noBox_ints _) | exact Rd.same (noBox_strs _) | exact Rd.same (noBox_intss _) | exact Rd.same (noBox_spns _)) ?_ | fail)); done) rfl | exact Rb.map (Res.eqs (map_succ (by omega)) (noBox_set rfl _)) | exact Rb.map (Res.eqs (pos_succ (by omega)) (noBox_pos _ _)) | exact Rb.cells (Rds.eqs (map_succ (by omega)) (noBoxs_map (fun _ => rfl) _)) rfl | assumption) ?_ | fail)); done) rfl rfl
  intro k ⟨h3, h4⟩
  repeat' ((conv => whnf) <;> (first
    | refine SeqV.go mixed T0 ?_
    | exact True.intro
    | (refine Br.mk (fun _ => ?_) (fun _ => ?_) <;> (try (exfalso; omega)))
    | refine Get.exp rfl ?_
    | refine Idx.lst (by first | omega | assumption | exact hl _ _ | exact inK64 (by omega) (by omega) | (simp; omega) | (simp; done)) ?_
    | refine Idx.lstS (by intro _; rfl) (by first | omega | assumption | exact hl _ _ | exact inK64 (by omega) (by omega) | (simp; omega) | (simp; done)) ?_
    | refine IdxS.nat (by first | omega | assumption | exact hl _ _ | exact inK64 (by omega) (by omega) | (simp; omega) | (simp; done)) ?_
    | refine IdxO.nat (by first | omega | assumption | exact hl _ _ | exact inK64 (by omega) (by omega) | (simp; omega) | (simp; done)) ?_
    | refine QuietV.mk (by kernel_rfl) ?_
    | refine Put.exp rfl ?_
    | refine SrcV.exp rfl ?_
    | refine Chk.mk (by first | rfl | exact inK64 (by omega) (by omega) | omega | assumption) ?_
    | refine Chk.mk ⟨Nat.le_of_ble_eq_true rfl, Nat.le_of_ble_eq_true rfl⟩ ?_
    | refine Chk.grow (by intro _; rfl) 8 rfl (by omega) (by omega) ?_
    | refine Chk.room 8 rfl (by omega) (by omega) ?_
    | refine Chk.made 8 rfl (by omega) (by omega) (by omega) ?_
    | refine Cll.dec (rvalid_c (by first | omega | assumption | exact hl _ _ | exact inK64 (by omega) (by omega) | (simp; omega) | (simp; done))) (fun _ => ?_) (fun _ => ?_)
    | refine Cal0.dec (rvalid_c (by first | omega | assumption | exact hl _ _ | exact inK64 (by omega) (by omega) | (simp; omega) | (simp; done))) (fun _ => ?_) (fun _ => ?_)
    | refine DrawV.by mixed T0 [0, 0, 3, 7, 15, 31, 63, 63, 255, 511, 63, 1087, 3135, 8191, 16383] (by kernel_rfl) ?_))
  all_goals (conv => whnf)
  all_goals first
    | exact RetV.no (fun hc => by have := hc.1 k (by omega); omega)
    | exact RetV.no (fun hc => by have := hc.2; contradiction)
    | exact RetV.yes ⟨up_all (by omega) h4, by assumption⟩
    | (refine ⟨k + 1, ⟨by omega, up_succ (by omega) h4 ⟨by omega, by omega⟩⟩, by omega, ?_⟩
       exact Lf.of2 [(0, _)] [] (by (repeat (first | exact Ents.nil | refine Ents.cons rfl (by first | exact Rd.any | exact Rd.ptr rfl | exact Rd.map rfl | exact Rd.sl rfl | exact Rd.same rfl | exact Rd.int (by omega) | assumption | exact Rd.same (noBox_ints _) | exact Rd.same (noBox_strs _) | exact Rd.same (noBox_intss _) | exact Rd.same (noBox_spns _)) ?_ | fail)); done) (by (repeat (first | exact Bxs.nil | refine Bxs.cons rfl rfl rfl (by first | exact Rb.cells (Rds.same rfl) rfl | exact Rb.cells (Rds.same (noBoxs_map (fun _ => rfl) _)) rfl | exact Rb.cells (Rds.same (noBoxs_fill (fun _ => rfl) rfl)) rfl | exact Rb.cells (Rds.same (noBoxs_flat (fun _ => rfl) _)) rfl | exact Rb.map (Res.same (noBox_set rfl _)) | exact Rb.map (Res.same (noBox_pos _ _)) | exact Rb.map (Res.same (by simp)) | exact Rb.cells (by (repeat (first | exact Rds.nil | refine Rds.cons (by first | exact Rd.any | exact Rd.ptr rfl | exact Rd.map rfl | exact Rd.sl rfl | exact Rd.same rfl | exact Rd.int (by omega) | assumption | exact Rd.same (noBox_ints _) | exact Rd.same (noBox_strs _) | exact Rd.same (noBox_intss _) | exact Rd.same (noBox_spns _)) ?_ | fail)); done) rfl | exact Rb.map (Res.eqs (map_succ (by omega)) (noBox_set rfl _)) | exact Rb.map (Res.eqs (pos_succ (by omega)) (noBox_pos _ _)) | exact Rb.cells (Rds.eqs (map_succ (by omega)) (noBoxs_map (fun _ => rfl) _)) rfl | assumption) ?_ | fail)); done) rfl rfl)

/-! ### A slice of the call's own, that began exact and has grown by append -/
def own0D {α : Type} (id : Nat) : List α → D
  | [] => nilS
  | [_] => .sl id 0 1 1 1 true
  | x :: y :: l => .sl id 0 (x :: y :: l).length (x :: y :: l).length 1 false
def own0B {α : Type} (id : Nat) (f : α → D) : List α → List (Nat × Box)
  | [] => []
  | [x] => [(id, .cells [f x] true)]
  | x :: y :: l => [(id, .cells ((x :: y :: l).map f) false)]
theorem app_map {α : Type} {f : α → D} (l : List α) (v : α) : ((l.map f).drop 0).take (l.length * 1) ++ [f v] = (l ++ [v]).map f := by
  rw [List.drop_zero, List.take_of_length_le (by simp), List.map_append]
  rfl
theorem Chk.growN {a b n m : Nat} {K : Prop} (c : Nat) (e : b = c) (h1 : a * c ≤ 1099511627776) (h2 : a ≤ 1099511627776) (h3 : n ≤ m) (go : K) : Chk (a * b ≤ maxRoom ∧ a ≤ maxRoom ∧ n ≤ m) K := ⟨by subst e; exact ⟨h1, h2, h3⟩, go⟩
theorem Get.mapE {α : Type} {f : α → D} {l : List α} {k : Nat} {x : α} {K : List D → Prop} (h : k < l.length) (e : l[k] = x) (go : K [f x]) : Get (l.map f) (0 + k * 1) 1 K := Get.map h (by rw [e]; exact go)
theorem SL_succ {nx : List (List Int)} {l : List Int} {k : Nat} (h : k < l.length) : (SL nx l).take (k + 1 + 1) = (SL nx l).take (k + 1) ++ [stL nx l (k + 1)] := by
  rw [take_succ_eq (by rw [SL_len]; omega)]
  simp [SL]

theorem rLeft_c {t : Tbl} {l : List Int} (ht : t.ok) (hx : l.length ≤ 1000) : Pu Tryz.prog 104 [tabD t, ints l] (ints (if okL t l then SL t.left.next l else [])) := by
  refine Pu.of_v mixed T0 Tryz.func104 rfl rfl (by simp [noBox, noBoxs, noBox_intss, noBox_ints, noBox_strs]) ?_
  repeat' ((conv => whnf) <;> (first
    | refine SeqV.go mixed T0 ?_
    | exact True.intro
    | (refine Br.mk (fun _ => ?_) (fun _ => ?_) <;> (try (exfalso; omega)))
    | refine Get.exp rfl ?_
    | refine Idx.lst (by first | omega | assumption | exact hl _ _ | exact inK64 (by omega) (by omega) | (simp; omega) | (simp; done)) ?_
    | refine Idx.lstS (by intro _; rfl) (by first | omega | assumption | exact hl _ _ | exact inK64 (by omega) (by omega) | (simp; omega) | (simp; done)) ?_
    | refine IdxS.nat (by first | omega | assumption | exact hl _ _ | exact inK64 (by omega) (by omega) | (simp; omega) | (simp; done)) ?_
    | refine IdxO.nat (by first | omega | assumption | exact hl _ _ | exact inK64 (by omega) (by omega) | (simp; omega) | (simp; done)) ?_
    | refine QuietV.mk (by kernel_rfl) ?_
    | refine Put.exp rfl ?_
    | refine SrcV.exp rfl ?_
    | refine Chk.mk (by first | rfl | exact inK64 (by omega) (by omega) | omega | assumption) ?_
    | refine Chk.mk ⟨Nat.le_of_ble_eq_true rfl, Nat.le_of_ble_eq_true rfl⟩ ?_
    | refine Chk.grow (by intro _; rfl) 8 rfl (by omega) (by omega) ?_
    | refine Chk.room 8 rfl (by omega) (by omega) ?_
    | refine Chk.made 8 rfl (by omega) (by omega) (by omega) ?_
    | refine Cll.dec (usable_c (by first | omega | assumption | exact hl _ _ | exact inK64 (by omega) (by omega) | (simp; omega) | (simp; done)) (by first | omega | assumption | exact hl _ _ | exact inK64 (by omega) (by omega) | (simp; omega) | (simp; done))) (fun _ => ?_) (fun _ => ?_)
    | refine Cal0.dec (usable_c (by first | omega | assumption | exact hl _ _ | exact inK64 (by omega) (by omega) | (simp; omega) | (simp; done)) (by first | omega | assumption | exact hl _ _ | exact inK64 (by omega) (by omega) | (simp; omega) | (simp; done))) (fun _ => ?_) (fun _ => ?_)))
  all_goals (conv => whnf)
  · rename_i hv
    have hv' : okL t l := hv
    rw [if_pos hv']
    have hc := hv.1
    have hs := hv.2.2.2.2.1
    refine LoopV.by2 mixed T0 (fun (k : Nat) (o : List Int) => ⟨tmp 37 [(1, ints l), (2, .ptr 0 0), (5, own0D 1 o), (6, i64 (k : Int))], ⟨2, own0B 1 i64 o ++ [(0, .cells [strs t.classes, ints t.actions, intss t.left.next, intss t.left.marks, intss t.right.next, intss t.right.marks] true)]⟩⟩)
      (fun k o => k ≤ l.length ∧ o = (SL t.left.next l).take (k + 1)) (fun k _ => l.length - k) 0 [0] ⟨by omega, by simp [SL, List.range_succ_eq_map, stL]⟩ ?_ ?_
    · exact Lf.of2 [(0, _), (1, _)] [] (by (repeat (first | exact Ents.nil | refine Ents.cons rfl (by first | exact Rd.any | exact Rd.ptr rfl | exact Rd.map rfl | exact Rd.sl rfl | exact Rd.same rfl | exact Rd.int (by omega) | assumption | exact Rd.same (noBox_ints _) | exact Rd.same (noBox_strs _) | exact Rd.same (noBox_intss _) | exact Rd.same (noBox_spns _)) ?_ | fail)); done) (by (repeat (first | exact Bxs.nil | refine Bxs.cons rfl rfl rfl (by first | exact Rb.cells (Rds.same rfl) rfl | exact Rb.cells (Rds.same (noBoxs_map (fun _ => rfl) _)) rfl | exact Rb.cells (Rds.same (noBoxs_fill (fun _ => rfl) rfl)) rfl | exact Rb.cells (Rds.same (noBoxs_flat (fun _ => rfl) _)) rfl | exact Rb.map (Res.same (noBox_set rfl _)) | exact Rb.map (Res.same (noBox_pos _ _)) | exact Rb.map (Res.same (by simp)) | exact Rb.cells (by (repeat (first | exact Rds.nil | refine Rds.cons (by first | exact Rd.any | exact Rd.ptr rfl | exact Rd.map rfl | exact Rd.sl rfl | exact Rd.same rfl | exact Rd.int (by omega) | assumption | exact Rd.same (noBox_ints _) | exact Rd.same (noBox_strs _) | exact Rd.same (noBox_intss _) | exact Rd.same (noBox_spns _)) ?_ | fail)); done) rfl | exact Rb.map (Res.eqs (map_succ (by omega)) (noBox_set rfl _)) | exact Rb.map (Res.eqs (pos_succ (by omega)) (noBox_pos _ _)) | exact Rb.cells (Rds.eqs (map_succ (by omega)) (noBoxs_map (fun _ => rfl) _)) rfl | assumption) ?_ | fail)); done) rfl rfl
    intro k o ⟨h3, h4⟩
    have nL := SL_len (nx := t.left.next) (l := l)
    have hol : o.length = k + 1 := by rw [h4, List.length_take]; omega
    have hok : ∀ h : k < o.length, o[k] = stL t.left.next l k := by
      intro h; subst h4; rw [List.getElem_take, SL_get]
    by_cases hk : k < l.length
    · have h4' := hc k hk
      have h5 := stL_range hs hc k (by omega)
      have h6 := hs.2.2.2 (stL t.left.next l k).toNat (by omega)
      have e1 : stL t.left.next l (k + 1) = t.left.next[(stL t.left.next l k).toNat][l[k].toNat] := by simp only [stL]; rw [getD_get hk, nxt_get]
      have hs' := SL_succ (nx := t.left.next) (l := l) hk
      rw [← h4, e1] at hs'
      match o, hol, hok, hs' with
      | [x], hol, hok, hs' =>
        have hk0 : k = 0 := by simpa using hol.symm
        subst hk0
        have hx0 : x = stL t.left.next l 0 := hok (by simp)
        simp only [← hx0] at h5 h6 hs'
        repeat' ((conv => whnf) <;> (first
          | refine SeqV.go mixed T0 ?_
          | exact True.intro
          | (refine Br.mk (fun _ => ?_) (fun _ => ?_) <;> (try (exfalso; omega)))
          | refine Get.exp rfl ?_
          | refine Idx.lst (by first | omega | assumption | exact hl _ _ | exact inK64 (by omega) (by omega) | (simp; omega) | (simp; done)) ?_
          | refine Idx.lstS (by intro _; rfl) (by first | omega | assumption | exact hl _ _ | exact inK64 (by omega) (by omega) | (simp; omega) | (simp; done)) ?_
          | refine IdxS.nat (by first | omega | assumption | exact hl _ _ | exact inK64 (by omega) (by omega) | (simp; omega) | (simp; done)) ?_
          | refine IdxO.nat (by first | omega | assumption | exact hl _ _ | exact inK64 (by omega) (by omega) | (simp; omega) | (simp; done)) ?_
          | refine QuietV.mk (by kernel_rfl) ?_
          | refine Put.exp rfl ?_
          | refine SrcV.exp rfl ?_
          | refine Chk.mk (by first | rfl | exact inK64 (by omega) (by omega) | omega | assumption) ?_
          | refine Chk.mk ⟨Nat.le_of_ble_eq_true rfl, Nat.le_of_ble_eq_true rfl⟩ ?_
          | refine Chk.grow (by intro _; rfl) 8 rfl (by omega) (by omega) ?_
          | refine Chk.room 8 rfl (by omega) (by omega) ?_
          | refine Chk.made 8 rfl (by omega) (by omega) (by omega) ?_
          | refine DrawV.by mixed T0 [0, 0, 2, 6, 0, 0, 48, 112, 254, 510, 0, 0, 3072, 7168, 16382, 32766, 65534, 131071, 262143] (by kernel_rfl) ?_
          | refine Idx.at x.toNat (by omega) (by omega) ?_
          | refine Idx.at l[0].toNat (by omega) (by omega) ?_
          | refine IdxO.at 0 (by omega) (by omega) ?_
          | refine Chk.growN 8 rfl (by omega) (by omega) (by simp) ?_))
        all_goals (conv => whnf)
        refine ⟨0 + 1, _, ⟨by omega, hs'.symm⟩, by omega, ?_⟩
        exact Lf.of2 [(0, _), (1, _)] [] (by (repeat (first | exact Ents.nil | refine Ents.cons rfl (by first | exact Rd.sl' rfl (by simp) (by simp) | (first | exact Rd.any | exact Rd.ptr rfl | exact Rd.map rfl | exact Rd.sl rfl | exact Rd.same rfl | exact Rd.int (by omega) | assumption | exact Rd.same (noBox_ints _) | exact Rd.same (noBox_strs _) | exact Rd.same (noBox_intss _) | exact Rd.same (noBox_spns _))) ?_ | fail)); done) (by (repeat (first | exact Bxs.nil | refine Bxs.cons rfl rfl rfl (by first | exact Rb.cells (Rds.eqs (app_map [x] _) (noBoxs_map (fun _ => rfl) _)) rfl | exact Rb.cells (Rds.same rfl) rfl | exact Rb.cells (Rds.same (noBoxs_map (fun _ => rfl) _)) rfl | exact Rb.cells (Rds.same (noBoxs_fill (fun _ => rfl) rfl)) rfl | exact Rb.cells (Rds.same (noBoxs_flat (fun _ => rfl) _)) rfl | exact Rb.map (Res.same (noBox_set rfl _)) | exact Rb.map (Res.same (noBox_pos _ _)) | exact Rb.map (Res.same (by simp)) | exact Rb.cells (by (repeat (first | exact Rds.nil | refine Rds.cons (by first | exact Rd.sl' rfl (by simp) (by simp) | (first | exact Rd.any | exact Rd.ptr rfl | exact Rd.map rfl | exact Rd.sl rfl | exact Rd.same rfl | exact Rd.int (by omega) | assumption | exact Rd.same (noBox_ints _) | exact Rd.same (noBox_strs _) | exact Rd.same (noBox_intss _) | exact Rd.same (noBox_spns _))) ?_ | fail)); done) rfl | exact Rb.map (Res.eqs (map_succ (by omega)) (noBox_set rfl _)) | exact Rb.map (Res.eqs (pos_succ (by omega)) (noBox_pos _ _)) | exact Rb.cells (Rds.eqs (map_succ (by omega)) (noBoxs_map (fun _ => rfl) _)) rfl | assumption) ?_ | fail)); done) rfl rfl
      | x :: y :: o, hol, hok, hs' =>
        repeat' ((conv => whnf) <;> (first
          | refine SeqV.go mixed T0 ?_
          | exact True.intro
          | (refine Br.mk (fun _ => ?_) (fun _ => ?_) <;> (try (exfalso; omega)))
          | refine Get.exp rfl ?_
          | refine Idx.lst (by first | omega | assumption | exact hl _ _ | exact inK64 (by omega) (by omega) | (simp; omega) | (simp; done)) ?_
          | refine Idx.lstS (by intro _; rfl) (by first | omega | assumption | exact hl _ _ | exact inK64 (by omega) (by omega) | (simp; omega) | (simp; done)) ?_
          | refine IdxS.nat (by first | omega | assumption | exact hl _ _ | exact inK64 (by omega) (by omega) | (simp; omega) | (simp; done)) ?_
          | refine IdxO.nat (by first | omega | assumption | exact hl _ _ | exact inK64 (by omega) (by omega) | (simp; omega) | (simp; done)) ?_
          | refine QuietV.mk (by kernel_rfl) ?_
          | refine Put.exp rfl ?_
          | refine SrcV.exp rfl ?_
          | refine Chk.mk (by first | rfl | exact inK64 (by omega) (by omega) | omega | assumption) ?_
          | refine Chk.mk ⟨Nat.le_of_ble_eq_true rfl, Nat.le_of_ble_eq_true rfl⟩ ?_
          | refine Chk.grow (by intro _; rfl) 8 rfl (by omega) (by omega) ?_
          | refine Chk.room 8 rfl (by omega) (by omega) ?_
          | refine Chk.made 8 rfl (by omega) (by omega) (by omega) ?_
          | refine DrawV.by mixed T0 [0, 0, 2, 6, 0, 0, 48, 112, 254, 510, 0, 0, 3072, 7168, 16382, 32766, 65534, 131071, 262143] (by kernel_rfl) ?_
          | refine Get.mapE (k := k) (x := stL t.left.next l k) (by omega) (hok _) ?_
          | refine Idx.at (stL t.left.next l k).toNat (by omega) (by omega) ?_
          | refine Idx.at l[k].toNat (by omega) (by omega) ?_
          | refine IdxO.at k (by omega) (by omega) ?_
          | refine Chk.growN 8 rfl (by omega) (by omega) (by simp) ?_))
        all_goals (conv => whnf)
        refine ⟨k + 1, _, ⟨by omega, hs'.symm⟩, by omega, ?_⟩
        exact Lf.of2 [(0, _), (1, _)] [] (by (repeat (first | exact Ents.nil | refine Ents.cons rfl (by first | exact Rd.sl' rfl (by simp) (by simp) | (first | exact Rd.any | exact Rd.ptr rfl | exact Rd.map rfl | exact Rd.sl rfl | exact Rd.same rfl | exact Rd.int (by omega) | assumption | exact Rd.same (noBox_ints _) | exact Rd.same (noBox_strs _) | exact Rd.same (noBox_intss _) | exact Rd.same (noBox_spns _))) ?_ | fail)); done) (by (repeat (first | exact Bxs.nil | refine Bxs.cons rfl rfl rfl (by first | exact Rb.cells (Rds.eqs (app_map (x :: y :: o) _) (noBoxs_map (fun _ => rfl) _)) rfl | exact Rb.cells (Rds.same rfl) rfl | exact Rb.cells (Rds.same (noBoxs_map (fun _ => rfl) _)) rfl | exact Rb.cells (Rds.same (noBoxs_fill (fun _ => rfl) rfl)) rfl | exact Rb.cells (Rds.same (noBoxs_flat (fun _ => rfl) _)) rfl | exact Rb.map (Res.same (noBox_set rfl _)) | exact Rb.map (Res.same (noBox_pos _ _)) | exact Rb.map (Res.same (by simp)) | exact Rb.cells (by (repeat (first | exact Rds.nil | refine Rds.cons (by first | exact Rd.sl' rfl (by simp) (by simp) | (first | exact Rd.any | exact Rd.ptr rfl | exact Rd.map rfl | exact Rd.sl rfl | exact Rd.same rfl | exact Rd.int (by omega) | assumption | exact Rd.same (noBox_ints _) | exact Rd.same (noBox_strs _) | exact Rd.same (noBox_intss _) | exact Rd.same (noBox_spns _))) ?_ | fail)); done) rfl | exact Rb.map (Res.eqs (map_succ (by omega)) (noBox_set rfl _)) | exact Rb.map (Res.eqs (pos_succ (by omega)) (noBox_pos _ _)) | exact Rb.cells (Rds.eqs (map_succ (by omega)) (noBoxs_map (fun _ => rfl) _)) rfl | assumption) ?_ | fail)); done) rfl rfl
    · have hall : (SL t.left.next l).take (k + 1) = SL t.left.next l := List.take_of_length_le (by omega)
      rw [hall] at h4
      rw [← h4]
      match o, hol with
      | [x], _ =>
        repeat' ((conv => whnf) <;> (first
          | refine SeqV.go mixed T0 ?_
          | exact True.intro
          | (refine Br.mk (fun _ => ?_) (fun _ => ?_) <;> (try (exfalso; omega)))
          | refine Get.exp rfl ?_
          | refine Idx.lst (by first | omega | assumption | exact hl _ _ | exact inK64 (by omega) (by omega) | (simp; omega) | (simp; done)) ?_
          | refine Idx.lstS (by intro _; rfl) (by first | omega | assumption | exact hl _ _ | exact inK64 (by omega) (by omega) | (simp; omega) | (simp; done)) ?_
          | refine IdxS.nat (by first | omega | assumption | exact hl _ _ | exact inK64 (by omega) (by omega) | (simp; omega) | (simp; done)) ?_
          | refine IdxO.nat (by first | omega | assumption | exact hl _ _ | exact inK64 (by omega) (by omega) | (simp; omega) | (simp; done)) ?_
          | refine QuietV.mk (by kernel_rfl) ?_
          | refine Put.exp rfl ?_
          | refine SrcV.exp rfl ?_
          | refine Chk.mk (by first | rfl | exact inK64 (by omega) (by omega) | omega | assumption) ?_
          | refine Chk.mk ⟨Nat.le_of_ble_eq_true rfl, Nat.le_of_ble_eq_true rfl⟩ ?_
          | refine Chk.grow (by intro _; rfl) 8 rfl (by omega) (by omega) ?_
          | refine Chk.room 8 rfl (by omega) (by omega) ?_
          | refine Chk.made 8 rfl (by omega) (by omega) (by omega) ?_))
        all_goals (conv => whnf)
        exact RetV.frz1 (l := [x]) (f := i64) rfl rfl rfl (fun _ => rfl) rfl
      | x :: y :: o, _ =>
        repeat' ((conv => whnf) <;> (first
          | refine SeqV.go mixed T0 ?_
          | exact True.intro
          | (refine Br.mk (fun _ => ?_) (fun _ => ?_) <;> (try (exfalso; omega)))
          | refine Get.exp rfl ?_
          | refine Idx.lst (by first | omega | assumption | exact hl _ _ | exact inK64 (by omega) (by omega) | (simp; omega) | (simp; done)) ?_
          | refine Idx.lstS (by intro _; rfl) (by first | omega | assumption | exact hl _ _ | exact inK64 (by omega) (by omega) | (simp; omega) | (simp; done)) ?_
          | refine IdxS.nat (by first | omega | assumption | exact hl _ _ | exact inK64 (by omega) (by omega) | (simp; omega) | (simp; done)) ?_
          | refine IdxO.nat (by first | omega | assumption | exact hl _ _ | exact inK64 (by omega) (by omega) | (simp; omega) | (simp; done)) ?_
          | refine QuietV.mk (by kernel_rfl) ?_
          | refine Put.exp rfl ?_
          | refine SrcV.exp rfl ?_
          | refine Chk.mk (by first | rfl | exact inK64 (by omega) (by omega) | omega | assumption) ?_
          | refine Chk.mk ⟨Nat.le_of_ble_eq_true rfl, Nat.le_of_ble_eq_true rfl⟩ ?_
          | refine Chk.grow (by intro _; rfl) 8 rfl (by omega) (by omega) ?_
          | refine Chk.room 8 rfl (by omega) (by omega) ?_
          | refine Chk.made 8 rfl (by omega) (by omega) (by omega) ?_))
        all_goals (conv => whnf)
        exact RetV.frz1 (l := x :: y :: o) (f := i64) rfl rfl rfl (fun _ => rfl) rfl
  · rename_i hv
    rw [if_neg (show ¬ okL t l from hv)]
    exact ⟨.nil⟩

theorem rRight_c {t : Tbl} {l : List Int} (ht : t.ok) (hx : l.length ≤ 1000) : Pu Tryz.prog 105 [tabD t, ints l] (ints (if okL t l then SR t.right.next l else [])) := by
  refine Pu.of_v mixed T0 Tryz.func105 rfl rfl (by simp [noBox, noBoxs, noBox_intss, noBox_ints, noBox_strs]) ?_
  repeat' ((conv => whnf) <;> (first
    | refine SeqV.go mixed T0 ?_
    | exact True.intro
    | (refine Br.mk (fun _ => ?_) (fun _ => ?_) <;> (try (exfalso; omega)))
    | refine Get.exp rfl ?_
    | refine Idx.lst (by first | omega | assumption | exact hl _ _ | exact inK64 (by omega) (by omega) | (simp; omega) | (simp; done)) ?_
    | refine Idx.lstS (by intro _; rfl) (by first | omega | assumption | exact hl _ _ | exact inK64 (by omega) (by omega) | (simp; omega) | (simp; done)) ?_
    | refine IdxS.nat (by first | omega | assumption | exact hl _ _ | exact inK64 (by omega) (by omega) | (simp; omega) | (simp; done)) ?_
    | refine IdxO.nat (by first | omega | assumption | exact hl _ _ | exact inK64 (by omega) (by omega) | (simp; omega) | (simp; done)) ?_
    | refine QuietV.mk (by kernel_rfl) ?_
    | refine Put.exp rfl ?_
    | refine SrcV.exp rfl ?_
    | refine Chk.mk (by first | rfl | exact inK64 (by omega) (by omega) | omega | assumption) ?_
    | refine Chk.mk ⟨Nat.le_of_ble_eq_true rfl, Nat.le_of_ble_eq_true rfl⟩ ?_
    | refine Chk.grow (by intro _; rfl) 8 rfl (by omega) (by omega) ?_
    | refine Chk.room 8 rfl (by omega) (by omega) ?_
    | refine Chk.made 8 rfl (by omega) (by omega) (by omega) ?_
    | refine Cll.dec (usable_c (by first | omega | assumption | exact hl _ _ | exact inK64 (by omega) (by omega) | (simp; omega) | (simp; done)) (by first | omega | assumption | exact hl _ _ | exact inK64 (by omega) (by omega) | (simp; omega) | (simp; done))) (fun _ => ?_) (fun _ => ?_)
    | refine Cal0.dec (usable_c (by first | omega | assumption | exact hl _ _ | exact inK64 (by omega) (by omega) | (simp; omega) | (simp; done)) (by first | omega | assumption | exact hl _ _ | exact inK64 (by omega) (by omega) | (simp; omega) | (simp; done))) (fun _ => ?_) (fun _ => ?_)))
  all_goals (conv => whnf)
  · rename_i hv
    have hv' : okL t l := hv
    rw [if_pos hv']
    have hc := hv.1
    have hs := hv.2.2.2.2.2
    refine LoopV.by mixed T0 (fun j : Nat => ⟨tmp 42 [(1, ints l), (2, .ptr 0 0), (5, .sl 1 0 (l.length + 1) (l.length + 1) 1 true), (6, i64 ((l.length : Int) - 1 - j))], ⟨2, [(0, .cells [strs t.classes, ints t.actions, intss t.left.next, intss t.left.marks, intss t.right.next, intss t.right.marks] true), (1, .cells (cellsF (l.length + 1) fun i => i64 (if l.length - j ≤ i then stR t.right.next l (l.length - i) else 0)) true)]⟩⟩)
      (fun j => j ≤ l.length) (fun j => l.length - j) 0 (by omega) ?_ ?_
    · exact Lf.of2 [(0, _), (1, _)] [] (by (repeat (first | exact Ents.nil | refine Ents.cons rfl (by first | exact Rd.any | exact Rd.ptr rfl | exact Rd.map rfl | exact Rd.sl rfl | exact Rd.same rfl | exact Rd.int (by omega) | assumption | exact Rd.same (noBox_ints _) | exact Rd.same (noBox_strs _) | exact Rd.same (noBox_intss _) | exact Rd.same (noBox_spns _)) ?_ | fail)); done) (by (repeat (first | exact Bxs.nil | refine Bxs.cons rfl rfl rfl (by first | exact Rb.cells (Rds.eqs (cellsF_zeros (by omega) (fun i hi => by by_cases h0 : l.length ≤ i <;> simp [h0, stR])) (noBoxs_F (fun _ => rfl))) rfl | exact Rb.cells (Rds.same rfl) rfl | exact Rb.cells (Rds.same (noBoxs_map (fun _ => rfl) _)) rfl | exact Rb.cells (Rds.same (noBoxs_fill (fun _ => rfl) rfl)) rfl | exact Rb.cells (Rds.same (noBoxs_flat (fun _ => rfl) _)) rfl | exact Rb.map (Res.same (noBox_set rfl _)) | exact Rb.map (Res.same (noBox_pos _ _)) | exact Rb.map (Res.same (by simp)) | exact Rb.cells (by (repeat (first | exact Rds.nil | refine Rds.cons (by first | exact Rd.any | exact Rd.ptr rfl | exact Rd.map rfl | exact Rd.sl rfl | exact Rd.same rfl | exact Rd.int (by omega) | assumption | exact Rd.same (noBox_ints _) | exact Rd.same (noBox_strs _) | exact Rd.same (noBox_intss _) | exact Rd.same (noBox_spns _)) ?_ | fail)); done) rfl | exact Rb.map (Res.eqs (map_succ (by omega)) (noBox_set rfl _)) | exact Rb.map (Res.eqs (pos_succ (by omega)) (noBox_pos _ _)) | exact Rb.cells (Rds.eqs (map_succ (by omega)) (noBoxs_map (fun _ => rfl) _)) rfl | assumption) ?_ | fail)); done) rfl rfl
    intro j h3
    by_cases hk : j < l.length
    · have h4 := hc (l.length - 1 - j) (by omega)
      have h5 := stR_range hs hc j (by omega)
      have h6 := hs.2.2.2 (stR t.right.next l j).toNat (by omega)
      repeat' ((conv => whnf) <;> (first
        | refine SeqV.go mixed T0 ?_
        | exact True.intro
        | (refine Br.mk (fun _ => ?_) (fun _ => ?_) <;> (try (exfalso; omega)))
        | refine Get.exp rfl ?_
        | refine Idx.lst (by first | omega | assumption | exact hl _ _ | exact inK64 (by omega) (by omega) | (simp; omega) | (simp; done)) ?_
        | refine Idx.lstS (by intro _; rfl) (by first | omega | assumption | exact hl _ _ | exact inK64 (by omega) (by omega) | (simp; omega) | (simp; done)) ?_
        | refine IdxS.nat (by first | omega | assumption | exact hl _ _ | exact inK64 (by omega) (by omega) | (simp; omega) | (simp; done)) ?_
        | refine IdxO.nat (by first | omega | assumption | exact hl _ _ | exact inK64 (by omega) (by omega) | (simp; omega) | (simp; done)) ?_
        | refine QuietV.mk (by kernel_rfl) ?_
        | refine Put.exp rfl ?_
        | refine SrcV.exp rfl ?_
        | refine Chk.mk (by first | rfl | exact inK64 (by omega) (by omega) | omega | assumption) ?_
        | refine Chk.mk ⟨Nat.le_of_ble_eq_true rfl, Nat.le_of_ble_eq_true rfl⟩ ?_
        | refine Chk.grow (by intro _; rfl) 8 rfl (by omega) (by omega) ?_
        | refine Chk.room 8 rfl (by omega) (by omega) ?_
        | refine Chk.made 8 rfl (by omega) (by omega) (by omega) ?_
        | refine DrawV.by mixed T0 [0, 0, 0, 4, 12, 0, 0, 64, 224, 480, 1020, 2044, 0, 0, 12288, 28672, 65532, 131068, 262143, 524287] (by kernel_rfl) ?_
        | refine IdxO.at (l.length - j) (by omega) (by omega) ?_
        | refine IdxO.at (l.length - 1 - j) (by omega) (by omega) ?_
        | refine Get.F (k := l.length - j) (d := i64 (stR t.right.next l j)) (by omega) (by rw [if_pos (Nat.le_refl _), show l.length - (l.length - j) = j from by omega]) ?_
        | refine Idx.at (stR t.right.next l j).toNat (by omega) (by omega) ?_
        | refine Idx.at (l.length - 1 - j) (by omega) (by omega) ?_
        | refine Idx.at (l[l.length - 1 - j]'(by omega)).toNat (by omega) (by omega) ?_
        | refine Put.one (by simp; omega) ?_))
      all_goals (conv => whnf)
      have e1 : stR t.right.next l (j + 1) = t.right.next[(stR t.right.next l j).toNat][(l[l.length - 1 - j]'(by omega)).toNat] := by simp only [stR]; rw [getD_get (show l.length - 1 - j < l.length by omega), nxt_get]
      have e2 : (cellsF (l.length + 1) fun i => i64 (if l.length - j ≤ i then stR t.right.next l (l.length - i) else 0)).set (l.length - 1 - j) (i64 t.right.next[(stR t.right.next l j).toNat][(l[l.length - 1 - j]'(by omega)).toNat]) = cellsF (l.length + 1) fun i => i64 (if l.length - (j + 1) ≤ i then stR t.right.next l (l.length - i) else 0) := by
        refine cellsF_set ?_ fun i _ hi => ?_
        · simp only [show l.length - (j + 1) ≤ l.length - 1 - j from by omega, if_true, show l.length - (l.length - 1 - j) = j + 1 from by omega, e1]
        · by_cases h0 : l.length - j ≤ i
          · simp only [h0, if_true, show l.length - (j + 1) ≤ i from by omega]
          · simp only [h0, if_false, show ¬ l.length - (j + 1) ≤ i from by omega]
      refine ⟨j + 1, by omega, by omega, ?_⟩
      exact Lf.of2 [(0, _), (1, _)] [] (by (repeat (first | exact Ents.nil | refine Ents.cons rfl (by first | exact Rd.any | exact Rd.ptr rfl | exact Rd.map rfl | exact Rd.sl rfl | exact Rd.same rfl | exact Rd.int (by omega) | assumption | exact Rd.same (noBox_ints _) | exact Rd.same (noBox_strs _) | exact Rd.same (noBox_intss _) | exact Rd.same (noBox_spns _)) ?_ | fail)); done) (by (repeat (first | exact Bxs.nil | refine Bxs.cons rfl rfl rfl (by first | exact Rb.cells (Rds.eqs e2 (noBoxs_F (fun _ => rfl))) rfl | exact Rb.cells (Rds.same rfl) rfl | exact Rb.cells (Rds.same (noBoxs_map (fun _ => rfl) _)) rfl | exact Rb.cells (Rds.same (noBoxs_fill (fun _ => rfl) rfl)) rfl | exact Rb.cells (Rds.same (noBoxs_flat (fun _ => rfl) _)) rfl | exact Rb.map (Res.same (noBox_set rfl _)) | exact Rb.map (Res.same (noBox_pos _ _)) | exact Rb.map (Res.same (by simp)) | exact Rb.cells (by (repeat (first | exact Rds.nil | refine Rds.cons (by first | exact Rd.any | exact Rd.ptr rfl | exact Rd.map rfl | exact Rd.sl rfl | exact Rd.same rfl | exact Rd.int (by omega) | assumption | exact Rd.same (noBox_ints _) | exact Rd.same (noBox_strs _) | exact Rd.same (noBox_intss _) | exact Rd.same (noBox_spns _)) ?_ | fail)); done) rfl | exact Rb.map (Res.eqs (map_succ (by omega)) (noBox_set rfl _)) | exact Rb.map (Res.eqs (pos_succ (by omega)) (noBox_pos _ _)) | exact Rb.cells (Rds.eqs (map_succ (by omega)) (noBoxs_map (fun _ => rfl) _)) rfl | assumption) ?_ | fail)); done) rfl rfl
    · repeat' ((conv => whnf) <;> (first
        | refine SeqV.go mixed T0 ?_
        | exact True.intro
        | (refine Br.mk (fun _ => ?_) (fun _ => ?_) <;> (try (exfalso; omega)))
        | refine Get.exp rfl ?_
        | refine Idx.lst (by first | omega | assumption | exact hl _ _ | exact inK64 (by omega) (by omega) | (simp; omega) | (simp; done)) ?_
        | refine Idx.lstS (by intro _; rfl) (by first | omega | assumption | exact hl _ _ | exact inK64 (by omega) (by omega) | (simp; omega) | (simp; done)) ?_
        | refine IdxS.nat (by first | omega | assumption | exact hl _ _ | exact inK64 (by omega) (by omega) | (simp; omega) | (simp; done)) ?_
        | refine IdxO.nat (by first | omega | assumption | exact hl _ _ | exact inK64 (by omega) (by omega) | (simp; omega) | (simp; done)) ?_
        | refine QuietV.mk (by kernel_rfl) ?_
        | refine Put.exp rfl ?_
        | refine SrcV.exp rfl ?_
        | refine Chk.mk (by first | rfl | exact inK64 (by omega) (by omega) | omega | assumption) ?_
        | refine Chk.mk ⟨Nat.le_of_ble_eq_true rfl, Nat.le_of_ble_eq_true rfl⟩ ?_
        | refine Chk.grow (by intro _; rfl) 8 rfl (by omega) (by omega) ?_
        | refine Chk.room 8 rfl (by omega) (by omega) ?_
        | refine Chk.made 8 rfl (by omega) (by omega) (by omega) ?_))
      all_goals (conv => whnf)
      refine RetV.frz1 (l := SR t.right.next l) (f := i64) rfl ?_ (by simp [SR]) (fun _ => rfl) rfl
      simp only [SR, cellsF, List.map_map]
      exact List.map_congr_left fun i hi => by simp at hi; simp [show l.length - j ≤ i by omega]
  · rename_i hv
    rw [if_neg (show ¬ okL t l from hv)]
    exact ⟨.nil⟩

theorem fc_hit {a b : List Int} {i : Nat} (hi : i < a.length) (hn : ∀ i' (h : i' < a.length), i' < i → ¬ a[i'] ∈ b) (hm : a[i] ∈ b) : fc a b = some a[i] := by
  unfold fc
  rw [List.find?_eq_some_iff_getElem]
  exact ⟨by simpa using hm, i, hi, rfl, fun j hj => by simpa using hn j (by omega) hj⟩
theorem fc_none {a b : List Int} (hn : ∀ i' (h : i' < a.length), ¬ a[i'] ∈ b) : fc a b = none := by
  unfold fc
  rw [List.find?_eq_none]
  intro x hx
  obtain ⟨i, hi, rfl⟩ := List.mem_iff_getElem.1 hx
  simpa using hn i hi
theorem not_mem_of {b : List Int} {x : Int} (h : ∀ j (h : j < b.length), b[j] ≠ x) : ¬ x ∈ b := by
  intro hm
  obtain ⟨j, hj, e⟩ := List.mem_iff_getElem.1 hm
  exact h j hj e

theorem rDecide_c {t : Tbl} {l : List Int} {k : Nat} (ht : t.ok) (hx : l.length ≤ 1000) (hok : okL t l) (hk : k ≤ l.length) : Pu Tryz.prog 71 [tabD t, ints l, i64 (k : Int)] (.tup [i64 (decA t (decO t (stL t.left.next l k) (stR t.right.next l (l.length - k)))), i64 (decI (decO t (stL t.left.next l k) (stR t.right.next l (l.length - k))))]) := by
  have hL := rLeft_c ht hx
  have hR := rRight_c ht hx
  rw [if_pos hok] at hL hR
  have nL := SL_len (nx := t.left.next) (l := l)
  have nR := SR_len (nx := t.right.next) (l := l)
  have eL := SL_get (nx := t.left.next) (l := l) (k := k) (by omega)
  have eR := SR_get (nx := t.right.next) (l := l) (k := k) (by omega)
  have hl := hok.2.2.2.2.1
  have hr := hok.2.2.2.2.2
  have d1 := stL_range hl hok.1 k (by omega)
  have d2 := stR_range hr hok.1 (l.length - k) (by omega)
  rw [← eL] at d1 ⊢
  rw [← eR] at d2 ⊢
  generalize hx' : (SL t.left.next l)[k]'(by omega) = x at d1
  generalize hy' : (SR t.right.next l)[k]'(by omega) = y at d2
  have el := hl.2.2.1
  have er := hr.2.2.1
  have ml := (hl.2.2.2 x.toNat (by omega)).2.2
  have mr := (hr.2.2.2 y.toNat (by omega)).2.2
  have gl : t.left.marks.getD x.toNat [] = t.left.marks[x.toNat]'(by omega) := getD_get (by omega)
  have gr : t.right.marks.getD y.toNat [] = t.right.marks[y.toNat]'(by omega) := getD_get (by omega)
  rw [gl] at ml
  rw [gr] at mr
  have bl := ht.left.markss x.toNat (by omega)
  have br := ht.right.markss y.toNat (by omega)
  have hdo : decO t x y = fc (t.left.marks[x.toNat]'(by omega)) (t.right.marks[y.toNat]'(by omega)) := by rw [decO, gl, gr]
  rw [hdo]
  refine Pu.of_v mixed T0 Tryz.func71 rfl rfl (by simp [noBox, noBoxs, noBox_intss, noBox_ints, noBox_strs]) ?_
  repeat' ((conv => whnf) <;> (first
    | refine SeqV.go mixed T0 ?_
    | exact True.intro
    | (refine Br.mk (fun _ => ?_) (fun _ => ?_) <;> (try (exfalso; omega)))
    | refine Get.exp rfl ?_
    | refine Idx.lst (by first | omega | assumption | exact hl _ _ | exact inK64 (by omega) (by omega) | (simp; omega) | (simp; done)) ?_
    | refine Idx.lstS (by intro _; rfl) (by first | omega | assumption | exact hl _ _ | exact inK64 (by omega) (by omega) | (simp; omega) | (simp; done)) ?_
    | refine IdxS.nat (by first | omega | assumption | exact hl _ _ | exact inK64 (by omega) (by omega) | (simp; omega) | (simp; done)) ?_
    | refine IdxO.nat (by first | omega | assumption | exact hl _ _ | exact inK64 (by omega) (by omega) | (simp; omega) | (simp; done)) ?_
    | refine QuietV.mk (by kernel_rfl) ?_
    | refine Put.exp rfl ?_
    | refine SrcV.exp rfl ?_
    | refine Chk.mk (by first | rfl | exact inK64 (by omega) (by omega) | omega | assumption) ?_
    | refine Chk.mk ⟨Nat.le_of_ble_eq_true rfl, Nat.le_of_ble_eq_true rfl⟩ ?_
    | refine Chk.grow (by intro _; rfl) 8 rfl (by omega) (by omega) ?_
    | refine Chk.room 8 rfl (by omega) (by omega) ?_
    | refine Chk.made 8 rfl (by omega) (by omega) (by omega) ?_
    | (refine Cll.dec (usable_c ht hx) (fun _ => ?_) (fun hne => absurd hok hne))
    | refine DrawV.by mixed T0 [0, 1, 3, 0, 0, 24, 0, 120, 248, 511, 1023, 0, 2048, 6144, 0, 0, 49208, 0, 245816, 507960, 1046584, 2095160, 116735, 8388607] (by kernel_rfl) ?_
    | refine Cal0.pu hL ?_
    | refine Cal0.pu hR ?_
    | refine Idx.at k (by omega) (by omega) ?_
    | refine Idx.at x.toNat (by omega) (by omega) ?_
    | refine Idx.at y.toNat (by omega) (by omega) ?_))
  all_goals (conv => whnf)
  clear hdo gl gr
  generalize t.left.marks[x.toNat]'(by omega) = a at ml bl ⊢
  generalize t.right.marks[y.toNat]'(by omega) = b at mr br ⊢
  have mm : ∀ i (h : i < a.length), 0 ≤ a[i] ∧ a[i] < t.actions.length := fun i h => mk_mem ml (List.getElem_mem h)
  refine LoopV.by mixed T0 (fun i : Nat => ⟨tmp 81 [(3, .ptr 0 0), (8, ints a), (9, ints b), (10, i64 (i : Int))], ⟨1, [(0, .cells [strs t.classes, ints t.actions, intss t.left.next, intss t.left.marks, intss t.right.next, intss t.right.marks] true)]⟩⟩)
    (fun i => i ≤ a.length ∧ ∀ n (h : n < a.length), n < i → ¬ a[n] ∈ b) (fun i => a.length - i) 0 ⟨by omega, fun _ _ h => by omega⟩ ?_ ?_
  · exact Lf.of2 [(0, _)] [] (by (repeat (first | exact Ents.nil | refine Ents.cons rfl (by first | exact Rd.any | exact Rd.ptr rfl | exact Rd.map rfl | exact Rd.sl rfl | exact Rd.same rfl | exact Rd.int (by omega) | assumption | exact Rd.same (noBox_ints _) | exact Rd.same (noBox_strs _) | exact Rd.same (noBox_intss _) | exact Rd.same (noBox_spns _)) ?_ | fail)); done) (by (repeat (first | exact Bxs.nil | refine Bxs.cons rfl rfl rfl (by first | exact Rb.cells (Rds.same rfl) rfl | exact Rb.cells (Rds.same (noBoxs_map (fun _ => rfl) _)) rfl | exact Rb.cells (Rds.same (noBoxs_fill (fun _ => rfl) rfl)) rfl | exact Rb.cells (Rds.same (noBoxs_flat (fun _ => rfl) _)) rfl | exact Rb.map (Res.same (noBox_set rfl _)) | exact Rb.map (Res.same (noBox_pos _ _)) | exact Rb.map (Res.same (by simp)) | exact Rb.cells (by (repeat (first | exact Rds.nil | refine Rds.cons (by first | exact Rd.any | exact Rd.ptr rfl | exact Rd.map rfl | exact Rd.sl rfl | exact Rd.same rfl | exact Rd.int (by omega) | assumption | exact Rd.same (noBox_ints _) | exact Rd.same (noBox_strs _) | exact Rd.same (noBox_intss _) | exact Rd.same (noBox_spns _)) ?_ | fail)); done) rfl | exact Rb.map (Res.eqs (map_succ (by omega)) (noBox_set rfl _)) | exact Rb.map (Res.eqs (pos_succ (by omega)) (noBox_pos _ _)) | exact Rb.cells (Rds.eqs (map_succ (by omega)) (noBoxs_map (fun _ => rfl) _)) rfl | assumption) ?_ | fail)); done) rfl rfl
  intro i ⟨h1, h2⟩
  repeat' ((conv => whnf) <;> (first
    | refine SeqV.go mixed T0 ?_
    | exact True.intro
    | (refine Br.mk (fun _ => ?_) (fun _ => ?_) <;> (try (exfalso; omega)))
    | refine Get.exp rfl ?_
    | refine Idx.lst (by first | omega | assumption | exact hl _ _ | exact inK64 (by omega) (by omega) | (simp; omega) | (simp; done)) ?_
    | refine Idx.lstS (by intro _; rfl) (by first | omega | assumption | exact hl _ _ | exact inK64 (by omega) (by omega) | (simp; omega) | (simp; done)) ?_
    | refine IdxS.nat (by first | omega | assumption | exact hl _ _ | exact inK64 (by omega) (by omega) | (simp; omega) | (simp; done)) ?_
    | refine IdxO.nat (by first | omega | assumption | exact hl _ _ | exact inK64 (by omega) (by omega) | (simp; omega) | (simp; done)) ?_
    | refine QuietV.mk (by kernel_rfl) ?_
    | refine Put.exp rfl ?_
    | refine SrcV.exp rfl ?_
    | refine Chk.mk (by first | rfl | exact inK64 (by omega) (by omega) | omega | assumption) ?_
    | refine Chk.mk ⟨Nat.le_of_ble_eq_true rfl, Nat.le_of_ble_eq_true rfl⟩ ?_
    | refine Chk.grow (by intro _; rfl) 8 rfl (by omega) (by omega) ?_
    | refine Chk.room 8 rfl (by omega) (by omega) ?_
    | refine Chk.made 8 rfl (by omega) (by omega) (by omega) ?_))
  all_goals (conv => whnf)
  all_goals first
    | (rw [fc_none (up_all (by omega) h2)]
       exact RetV.same rfl rfl)
    | skip
  refine LoopV.by mixed T0 (fun j : Nat => ⟨tmp 81 [(3, .ptr 0 0), (8, ints a), (9, ints b), (10, i64 (i : Int)), (11, i64 (j : Int))], ⟨1, [(0, .cells [strs t.classes, ints t.actions, intss t.left.next, intss t.left.marks, intss t.right.next, intss t.right.marks] true)]⟩⟩)
    (fun j => j ≤ b.length ∧ ∀ n (h : n < b.length), n < j → b[n] ≠ a[i]) (fun j => b.length - j) 0 ⟨by omega, fun _ _ h => by omega⟩ ?_ ?_
  · exact Lf.of2 [(0, _)] [] (by (repeat (first | exact Ents.nil | refine Ents.cons rfl (by first | exact Rd.any | exact Rd.ptr rfl | exact Rd.map rfl | exact Rd.sl rfl | exact Rd.same rfl | exact Rd.int (by omega) | assumption | exact Rd.same (noBox_ints _) | exact Rd.same (noBox_strs _) | exact Rd.same (noBox_intss _) | exact Rd.same (noBox_spns _)) ?_ | fail)); done) (by (repeat (first | exact Bxs.nil | refine Bxs.cons rfl rfl rfl (by first | exact Rb.cells (Rds.same rfl) rfl | exact Rb.cells (Rds.same (noBoxs_map (fun _ => rfl) _)) rfl | exact Rb.cells (Rds.same (noBoxs_fill (fun _ => rfl) rfl)) rfl | exact Rb.cells (Rds.same (noBoxs_flat (fun _ => rfl) _)) rfl | exact Rb.map (Res.same (noBox_set rfl _)) | exact Rb.map (Res.same (noBox_pos _ _)) | exact Rb.map (Res.same (by simp)) | exact Rb.cells (by (repeat (first | exact Rds.nil | refine Rds.cons (by first | exact Rd.any | exact Rd.ptr rfl | exact Rd.map rfl | exact Rd.sl rfl | exact Rd.same rfl | exact Rd.int (by omega) | assumption | exact Rd.same (noBox_ints _) | exact Rd.same (noBox_strs _) | exact Rd.same (noBox_intss _) | exact Rd.same (noBox_spns _)) ?_ | fail)); done) rfl | exact Rb.map (Res.eqs (map_succ (by omega)) (noBox_set rfl _)) | exact Rb.map (Res.eqs (pos_succ (by omega)) (noBox_pos _ _)) | exact Rb.cells (Rds.eqs (map_succ (by omega)) (noBoxs_map (fun _ => rfl) _)) rfl | assumption) ?_ | fail)); done) rfl rfl
  intro j ⟨h3, h4⟩
  have hmi := mm i (by omega)
  repeat' ((conv => whnf) <;> (first
    | refine SeqV.go mixed T0 ?_
    | exact True.intro
    | (refine Br.mk (fun _ => ?_) (fun _ => ?_) <;> (try (exfalso; omega)))
    | refine Get.exp rfl ?_
    | refine Idx.lst (by first | omega | assumption | exact hl _ _ | exact inK64 (by omega) (by omega) | (simp; omega) | (simp; done)) ?_
    | refine Idx.lstS (by intro _; rfl) (by first | omega | assumption | exact hl _ _ | exact inK64 (by omega) (by omega) | (simp; omega) | (simp; done)) ?_
    | refine IdxS.nat (by first | omega | assumption | exact hl _ _ | exact inK64 (by omega) (by omega) | (simp; omega) | (simp; done)) ?_
    | refine IdxO.nat (by first | omega | assumption | exact hl _ _ | exact inK64 (by omega) (by omega) | (simp; omega) | (simp; done)) ?_
    | refine QuietV.mk (by kernel_rfl) ?_
    | refine Put.exp rfl ?_
    | refine SrcV.exp rfl ?_
    | refine Chk.mk (by first | rfl | exact inK64 (by omega) (by omega) | omega | assumption) ?_
    | refine Chk.mk ⟨Nat.le_of_ble_eq_true rfl, Nat.le_of_ble_eq_true rfl⟩ ?_
    | refine Chk.grow (by intro _; rfl) 8 rfl (by omega) (by omega) ?_
    | refine Chk.room 8 rfl (by omega) (by omega) ?_
    | refine Chk.made 8 rfl (by omega) (by omega) (by omega) ?_
    | refine DrawV.by mixed T0 [0, 0, 3, 7, 0, 0, 48, 112, 255] (by kernel_rfl) ?_
    | refine DrawV.by mixed T0 [0, 1, 0, 0, 12, 28, 63, 127, 0, 0, 768, 1792, 255, 8191] (by kernel_rfl) ?_
    | refine Idx.at (a[i]'(by omega)).toNat (by omega) (by omega) ?_))
  all_goals (conv => whnf)
  all_goals first
    | (refine ⟨j + 1, ⟨by omega, up_succ (by omega) h4 (by omega)⟩, by omega, ?_⟩
       exact Lf.of2 [(0, _)] [] (by (repeat (first | exact Ents.nil | refine Ents.cons rfl (by first | exact Rd.any | exact Rd.ptr rfl | exact Rd.map rfl | exact Rd.sl rfl | exact Rd.same rfl | exact Rd.int (by omega) | assumption | exact Rd.same (noBox_ints _) | exact Rd.same (noBox_strs _) | exact Rd.same (noBox_intss _) | exact Rd.same (noBox_spns _)) ?_ | fail)); done) (by (repeat (first | exact Bxs.nil | refine Bxs.cons rfl rfl rfl (by first | exact Rb.cells (Rds.same rfl) rfl | exact Rb.cells (Rds.same (noBoxs_map (fun _ => rfl) _)) rfl | exact Rb.cells (Rds.same (noBoxs_fill (fun _ => rfl) rfl)) rfl | exact Rb.cells (Rds.same (noBoxs_flat (fun _ => rfl) _)) rfl | exact Rb.map (Res.same (noBox_set rfl _)) | exact Rb.map (Res.same (noBox_pos _ _)) | exact Rb.map (Res.same (by simp)) | exact Rb.cells (by (repeat (first | exact Rds.nil | refine Rds.cons (by first | exact Rd.any | exact Rd.ptr rfl | exact Rd.map rfl | exact Rd.sl rfl | exact Rd.same rfl | exact Rd.int (by omega) | assumption | exact Rd.same (noBox_ints _) | exact Rd.same (noBox_strs _) | exact Rd.same (noBox_intss _) | exact Rd.same (noBox_spns _)) ?_ | fail)); done) rfl | exact Rb.map (Res.eqs (map_succ (by omega)) (noBox_set rfl _)) | exact Rb.map (Res.eqs (pos_succ (by omega)) (noBox_pos _ _)) | exact Rb.cells (Rds.eqs (map_succ (by omega)) (noBoxs_map (fun _ => rfl) _)) rfl | assumption) ?_ | fail)); done) rfl rfl)
    | (refine ⟨i + 1, ⟨by omega, up_succ (by omega) h2 (not_mem_of (up_all (by omega) h4))⟩, by omega, ?_⟩
       exact Lf.of2 [(0, _)] [] (by (repeat (first | exact Ents.nil | refine Ents.cons rfl (by first | exact Rd.any | exact Rd.ptr rfl | exact Rd.map rfl | exact Rd.sl rfl | exact Rd.same rfl | exact Rd.int (by omega) | assumption | exact Rd.same (noBox_ints _) | exact Rd.same (noBox_strs _) | exact Rd.same (noBox_intss _) | exact Rd.same (noBox_spns _)) ?_ | fail)); done) (by (repeat (first | exact Bxs.nil | refine Bxs.cons rfl rfl rfl (by first | exact Rb.cells (Rds.same rfl) rfl | exact Rb.cells (Rds.same (noBoxs_map (fun _ => rfl) _)) rfl | exact Rb.cells (Rds.same (noBoxs_fill (fun _ => rfl) rfl)) rfl | exact Rb.cells (Rds.same (noBoxs_flat (fun _ => rfl) _)) rfl | exact Rb.map (Res.same (noBox_set rfl _)) | exact Rb.map (Res.same (noBox_pos _ _)) | exact Rb.map (Res.same (by simp)) | exact Rb.cells (by (repeat (first | exact Rds.nil | refine Rds.cons (by first | exact Rd.any | exact Rd.ptr rfl | exact Rd.map rfl | exact Rd.sl rfl | exact Rd.same rfl | exact Rd.int (by omega) | assumption | exact Rd.same (noBox_ints _) | exact Rd.same (noBox_strs _) | exact Rd.same (noBox_intss _) | exact Rd.same (noBox_spns _)) ?_ | fail)); done) rfl | exact Rb.map (Res.eqs (map_succ (by omega)) (noBox_set rfl _)) | exact Rb.map (Res.eqs (pos_succ (by omega)) (noBox_pos _ _)) | exact Rb.cells (Rds.eqs (map_succ (by omega)) (noBoxs_map (fun _ => rfl) _)) rfl | assumption) ?_ | fail)); done) rfl rfl)
    | (rename_i e
       have hj : j < b.length := by omega
       rw [fc_hit (by omega) h2 (e ▸ List.getElem_mem hj)]
       exact RetV.same rfl (by simp only [decA, decI]; rw [show t.actions.getD (a[i]'(by omega)).toNat 0 = t.actions[(a[i]'(by omega)).toNat]'(by omega) from getD_get (by omega)]; rfl))

end Go.Proofs.YtgcjjodbmcnhkaaGreatDoor
