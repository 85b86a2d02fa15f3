/-
  The statement SegmentCovers, over data.
-/
import Derived.Test.YtgcjjodbmcnhkaaGreatDoorL5
namespace Go.Proofs.YtgcjjodbmcnhkaaGreatDoor
open Go Go.Am Classical
set_option maxRecDepth 100000

/-- Ranges that follow one another from v to the last position, their inner ends boundaries, nothing but Keep within. -/
def Cov (A : List Int) : Nat → List Rng → Prop
  | v, [] => v + 1 = A.length
  | v, r :: rs => ∃ h : Nat, r.lo = (v : Int) ∧ r.hi = (h : Int) ∧ v < h ∧ h < A.length ∧ (rs ≠ [] → A.getD h 0 ≠ 1) ∧ (∀ k, v < k → k < h → A.getD k 0 = 1) ∧ Cov A h rs
theorem ptF_cov {A : List Int} : ∀ (l : List Int) (i s : Nat), l ≠ [] → l = A.drop i → i + l.length = A.length → s ≤ i → (∀ k, s < k → k < i → A.getD k 0 = 1) → Cov A s (ptF A.length i s l)
  | [], _, _, h, _, _, _, _ => absurd rfl h
  | [a], i, s, _, hd, hl, hs, hb => by
    simp only [List.length_singleton] at hl
    by_cases h : i = s
    · rw [ptF_no (.inl (by omega)), ptF]
      simp only [Cov]; omega
    · rw [ptF_yes (by omega), ptF]
      exact ⟨i, rfl, rfl, by omega, by omega, fun hc => absurd rfl hc, hb, hl⟩
  | a :: b :: l, i, s, _, hd, hl, hs, hb => by
    have hlen : i + 1 + (b :: l).length = A.length := by simp only [List.length_cons] at hl ⊢; omega
    have hi : i < A.length := by simp only [List.length_cons] at hl; omega
    have ha : A.getD i 0 = a := by
      rw [List.drop_eq_getElem_cons hi] at hd
      rw [getD_get hi]
      exact (List.cons.inj hd).1.symm
    have hd' : b :: l = A.drop (i + 1) := by
      rw [List.drop_eq_getElem_cons hi] at hd
      exact (List.cons.inj hd).2
    have e : ((i : Int) + 1) = ((i + 1 : Nat) : Int) := by omega
    have hin : (i : Int) < (A.length : Int) - 1 := by simp only [List.length_cons] at hl; omega
    by_cases h : i = s
    · rw [ptF_no (.inl (by omega)), e]
      exact ptF_cov (b :: l) (i + 1) s (by simp) hd' hlen (by omega) (fun k h1 h2 => by omega)
    · by_cases h1 : a = 1
      · rw [ptF_no (.inr ⟨h1, hin⟩), e]
        refine ptF_cov (b :: l) (i + 1) s (by simp) hd' hlen (by omega) (fun k h2 h3 => ?_)
        by_cases hk : k = i
        · subst hk; rw [ha, h1]
        · exact hb k h2 (by omega)
      · rw [ptF_yes (by intro hc; rcases hc with hc | hc; exact h (by omega); exact h1 hc.1), e]
        exact ⟨i, rfl, rfl, by omega, hi, fun _ => by rw [ha]; exact h1, hb, ptF_cov (b :: l) (i + 1) i (by simp) hd' hlen (by omega) (fun k h2 h3 => by omega)⟩
theorem ptV_cov {A : List Int} (h : A ≠ []) : Cov A 0 (ptV A) := ptF_cov A 0 0 h rfl (by omega) (by omega) (fun k h1 h2 => by omega)

theorem lawCovers_c {p : Prp} {t : Tbl} {text : List Int} (hp : p.ok) (ht : t.ok) : Pu Tryz.prog 9 [prpD p, tabD t, ints text] (boo true) := by
  refine Pu.of_v mixed T0 Tryz.func9 rfl rfl (by simp [noBox, noBoxs, noBox_strs, noBox_spns, noBox_ints, noBox_intss]) ?_
  by_cases hf : Few p t text
  · have h1 := hf.1
    have h2 := hf.2.1
    have h3 := hf.2.2.2
    by_cases hv : TV t
    · have hs := sActions_c (text := text) hp ht (by omega) (by omega) (by omega)
      have hb := Parts_c (text := text) hp ht (by omega) (by omega) (by omega)
      have hc := Count_c (text := text) hp ht (by omega) (by omega) (by omega)
      have hm := prt_len p t text (by omega)
      have hn : (actV p t text).length = text.length + 1 := by rw [actV, if_pos hv, acts_len]; simp [namedV]
      rw [← ptV_act] at hb hc hm
      have hC := ptV_cov (A := actV p t text) (by intro h; rw [h] at hn; simp at hn)
      generalize actV p t text = A at hs hb hc hm hn hC
      generalize ptV A = L at hb hc hm hC
      repeat' ((conv => whnf) <;> (first
        | refine SeqV.go mixed T0 ?_
        | exact True.intro
        | (refine Br.mk (fun _ => ?_) (fun _ => ?_) <;> (try (exfalso; omega)))
        | refine Get.exp rfl ?_
        | refine Idx.lst (by first | omega | assumption | exact hl _ _ | exact inK64 (by omega) (by omega) | (simp; omega) | (simp; done)) ?_
        | refine Idx.lstS (by intro _; rfl) (by first | omega | assumption | exact hl _ _ | exact inK64 (by omega) (by omega) | (simp; omega) | (simp; done)) ?_
        | refine IdxS.nat (by first | omega | assumption | exact hl _ _ | exact inK64 (by omega) (by omega) | (simp; omega) | (simp; done)) ?_
        | refine IdxO.nat (by first | omega | assumption | exact hl _ _ | exact inK64 (by omega) (by omega) | (simp; omega) | (simp; done)) ?_
        | refine QuietV.mk (by kernel_rfl) ?_
        | refine Put.exp rfl ?_
        | refine SrcV.exp rfl ?_
        | refine Chk.mk (by first | rfl | exact inK64 (by omega) (by omega) | omega | assumption) ?_
        | refine Chk.mk ⟨Nat.le_of_ble_eq_true rfl, Nat.le_of_ble_eq_true rfl⟩ ?_
        | (refine Cll.dec (few_c (p := p) (t := t) (text := text)) (fun _ => ?_) (fun _ => ?_) <;> (try contradiction))
        | (refine Cll.dec (rvalid_c ht) (fun _ => ?_) (fun _ => ?_) <;> (try contradiction))
        | refine Cll.pu hb ?_
        | refine Cll.pu hs ?_
        | refine Cll.pu hc ?_
        | fail))
      all_goals (conv => whnf)
      refine LoopV.by2 mixed T0 (fun (j v : Nat) => ⟨tmp 124 [(2, ints text), (7, rngs L), (8, ints A), (9, i64 (v : Int)), (10, i64 (j : Int))], ⟨0, []⟩⟩)
        (fun j v => j ≤ L.length ∧ Cov A v (L.drop j)) (fun j _ => L.length - j) 0 0 ⟨by omega, hC⟩ ?_ ?_
      · exact Lf.of2 [] [] (by (repeat (first | exact Ents.nil | refine Ents.cons rfl (by first | exact Rd.any | exact Rd.ptr rfl | exact Rd.map rfl | exact Rd.sl rfl | exact Rd.same rfl | exact Rd.int (by omega) | assumption | exact Rd.same (noBox_ints _) | exact Rd.same (noBox_strs _) | exact Rd.same (noBox_intss _) | exact Rd.same (noBox_spns _) | exact Rd.same (noBox_rngs _)) ?_ | fail)); done) (by (repeat (first | exact Bxs.nil | refine Bxs.cons rfl rfl rfl (by first | exact Rb.cells (Rds.same rfl) rfl | exact Rb.cells (Rds.same (noBoxs_map (fun _ => rfl) _)) rfl | exact Rb.cells (Rds.same (noBoxs_fill (fun _ => rfl) rfl)) rfl | exact Rb.cells (Rds.same (noBoxs_flat (fun _ => rfl) _)) rfl | exact Rb.map (Res.same (noBox_set rfl _)) | exact Rb.map (Res.same (noBox_pos _ _)) | exact Rb.map (Res.same (by simp)) | exact Rb.cells (by (repeat (first | exact Rds.nil | refine Rds.cons (by first | exact Rd.any | exact Rd.ptr rfl | exact Rd.map rfl | exact Rd.sl rfl | exact Rd.same rfl | exact Rd.int (by omega) | assumption | exact Rd.same (noBox_ints _) | exact Rd.same (noBox_strs _) | exact Rd.same (noBox_intss _) | exact Rd.same (noBox_spns _) | exact Rd.same (noBox_rngs _)) ?_ | fail)); done) rfl | exact Rb.map (Res.eqs (map_succ (by omega)) (noBox_set rfl _)) | exact Rb.map (Res.eqs (pos_succ (by omega)) (noBox_pos _ _)) | exact Rb.cells (Rds.eqs (map_succ (by omega)) (noBoxs_map (fun _ => rfl) _)) rfl | assumption) ?_ | fail)); done) rfl rfl
      intro j v ⟨h4, h5⟩
      by_cases hj : j < L.length
      · rw [List.drop_eq_getElem_cons hj] at h5
        obtain ⟨h, e1, e2, e3, e4, e5, e6, e7⟩ := h5
        have e5' : j + 1 < L.length → A[h] ≠ 1 := fun hlt => by
          rw [← getD_get e4]
          exact e5 (by intro hc; have := congrArg List.length hc; simp only [List.length_drop, List.length_nil] at this; omega)
        repeat' ((conv => whnf) <;> (first
          | refine SeqV.go mixed T0 ?_
          | exact True.intro
          | (refine Br.mk (fun _ => ?_) (fun _ => ?_) <;> (try (exfalso; omega)))
          | refine Get.exp rfl ?_
          | refine Idx.lst (by first | omega | assumption | exact hl _ _ | exact inK64 (by omega) (by omega) | (simp; omega) | (simp; done)) ?_
          | refine Idx.lstS (by intro _; rfl) (by first | omega | assumption | exact hl _ _ | exact inK64 (by omega) (by omega) | (simp; omega) | (simp; done)) ?_
          | refine IdxS.nat (by first | omega | assumption | exact hl _ _ | exact inK64 (by omega) (by omega) | (simp; omega) | (simp; done)) ?_
          | refine IdxO.nat (by first | omega | assumption | exact hl _ _ | exact inK64 (by omega) (by omega) | (simp; omega) | (simp; done)) ?_
          | refine QuietV.mk (by kernel_rfl) ?_
          | refine Put.exp rfl ?_
          | refine SrcV.exp rfl ?_
          | refine Chk.mk (by first | rfl | exact inK64 (by omega) (by omega) | omega | assumption) ?_
          | refine Chk.mk ⟨Nat.le_of_ble_eq_true rfl, Nat.le_of_ble_eq_true rfl⟩ ?_
          | refine Idx.atS (sz := 2) (c := rngC) (fun _ => rfl) j (by omega) (by omega) ?_
          | refine Idx.at h (by omega) (by omega) ?_
          | fail))
        all_goals (conv => whnf)
        all_goals
          refine LoopV.by mixed T0 (fun m : Nat => ⟨tmp 124 [(2, ints text), (7, rngs L), (8, ints A), (10, i64 (j : Int)), (11, i64 ((v : Int) + 1 + m))], ⟨0, []⟩⟩)
            (fun m => v + 1 + m ≤ h) (fun m => h - m) 0 (by omega) ?_ ?_
          · exact Lf.of2 [] [] (by (repeat (first | exact Ents.nil | refine Ents.cons rfl (by first | exact Rd.any | exact Rd.ptr rfl | exact Rd.map rfl | exact Rd.sl rfl | exact Rd.same rfl | exact Rd.int (by omega) | assumption | exact Rd.same (noBox_ints _) | exact Rd.same (noBox_strs _) | exact Rd.same (noBox_intss _) | exact Rd.same (noBox_spns _) | exact Rd.same (noBox_rngs _)) ?_ | fail)); done) (by (repeat (first | exact Bxs.nil | refine Bxs.cons rfl rfl rfl (by first | exact Rb.cells (Rds.same rfl) rfl | exact Rb.cells (Rds.same (noBoxs_map (fun _ => rfl) _)) rfl | exact Rb.cells (Rds.same (noBoxs_fill (fun _ => rfl) rfl)) rfl | exact Rb.cells (Rds.same (noBoxs_flat (fun _ => rfl) _)) rfl | exact Rb.map (Res.same (noBox_set rfl _)) | exact Rb.map (Res.same (noBox_pos _ _)) | exact Rb.map (Res.same (by simp)) | exact Rb.cells (by (repeat (first | exact Rds.nil | refine Rds.cons (by first | exact Rd.any | exact Rd.ptr rfl | exact Rd.map rfl | exact Rd.sl rfl | exact Rd.same rfl | exact Rd.int (by omega) | assumption | exact Rd.same (noBox_ints _) | exact Rd.same (noBox_strs _) | exact Rd.same (noBox_intss _) | exact Rd.same (noBox_spns _) | exact Rd.same (noBox_rngs _)) ?_ | fail)); done) rfl | exact Rb.map (Res.eqs (map_succ (by omega)) (noBox_set rfl _)) | exact Rb.map (Res.eqs (pos_succ (by omega)) (noBox_pos _ _)) | exact Rb.cells (Rds.eqs (map_succ (by omega)) (noBoxs_map (fun _ => rfl) _)) rfl | assumption) ?_ | fail)); done) rfl rfl
          intro m h6
          by_cases hm : v + 1 + m < h
          · have e8 : A[v + 1 + m] = 1 := by rw [← getD_get (by omega)]; exact e6 _ (by omega) hm
            repeat' ((conv => whnf) <;> (first
              | refine SeqV.go mixed T0 ?_
              | exact True.intro
              | (refine Br.mk (fun _ => ?_) (fun _ => ?_) <;> (try (exfalso; omega)))
              | refine Get.exp rfl ?_
              | refine Idx.lst (by first | omega | assumption | exact hl _ _ | exact inK64 (by omega) (by omega) | (simp; omega) | (simp; done)) ?_
              | refine Idx.lstS (by intro _; rfl) (by first | omega | assumption | exact hl _ _ | exact inK64 (by omega) (by omega) | (simp; omega) | (simp; done)) ?_
              | refine IdxS.nat (by first | omega | assumption | exact hl _ _ | exact inK64 (by omega) (by omega) | (simp; omega) | (simp; done)) ?_
              | refine IdxO.nat (by first | omega | assumption | exact hl _ _ | exact inK64 (by omega) (by omega) | (simp; omega) | (simp; done)) ?_
              | refine QuietV.mk (by kernel_rfl) ?_
              | refine Put.exp rfl ?_
              | refine SrcV.exp rfl ?_
              | refine Chk.mk (by first | rfl | exact inK64 (by omega) (by omega) | omega | assumption) ?_
              | refine Chk.mk ⟨Nat.le_of_ble_eq_true rfl, Nat.le_of_ble_eq_true rfl⟩ ?_
              | refine Idx.atS (sz := 2) (c := rngC) (fun _ => rfl) j (by omega) (by omega) ?_
              | refine Idx.at (v + 1 + m) (by omega) (by omega) ?_
              | fail))
            all_goals (conv => whnf)
            all_goals first
              | (exfalso; rename_i hne; exact hne e8)
              | (refine ⟨m + 1, by omega, by omega, ?_⟩
                 exact Lf.of2 [] [] (by (repeat (first | exact Ents.nil | refine Ents.cons rfl (by first | exact Rd.any | exact Rd.ptr rfl | exact Rd.map rfl | exact Rd.sl rfl | exact Rd.same rfl | exact Rd.int (by omega) | assumption | exact Rd.same (noBox_ints _) | exact Rd.same (noBox_strs _) | exact Rd.same (noBox_intss _) | exact Rd.same (noBox_spns _) | exact Rd.same (noBox_rngs _)) ?_ | fail)); done) (by (repeat (first | exact Bxs.nil | refine Bxs.cons rfl rfl rfl (by first | exact Rb.cells (Rds.same rfl) rfl | exact Rb.cells (Rds.same (noBoxs_map (fun _ => rfl) _)) rfl | exact Rb.cells (Rds.same (noBoxs_fill (fun _ => rfl) rfl)) rfl | exact Rb.cells (Rds.same (noBoxs_flat (fun _ => rfl) _)) rfl | exact Rb.map (Res.same (noBox_set rfl _)) | exact Rb.map (Res.same (noBox_pos _ _)) | exact Rb.map (Res.same (by simp)) | exact Rb.cells (by (repeat (first | exact Rds.nil | refine Rds.cons (by first | exact Rd.any | exact Rd.ptr rfl | exact Rd.map rfl | exact Rd.sl rfl | exact Rd.same rfl | exact Rd.int (by omega) | assumption | exact Rd.same (noBox_ints _) | exact Rd.same (noBox_strs _) | exact Rd.same (noBox_intss _) | exact Rd.same (noBox_spns _) | exact Rd.same (noBox_rngs _)) ?_ | fail)); done) rfl | exact Rb.map (Res.eqs (map_succ (by omega)) (noBox_set rfl _)) | exact Rb.map (Res.eqs (pos_succ (by omega)) (noBox_pos _ _)) | exact Rb.cells (Rds.eqs (map_succ (by omega)) (noBoxs_map (fun _ => rfl) _)) rfl | assumption) ?_ | fail)); done) rfl rfl)
          · repeat' ((conv => whnf) <;> (first
              | refine SeqV.go mixed T0 ?_
              | exact True.intro
              | (refine Br.mk (fun _ => ?_) (fun _ => ?_) <;> (try (exfalso; omega)))
              | refine Get.exp rfl ?_
              | refine Idx.lst (by first | omega | assumption | exact hl _ _ | exact inK64 (by omega) (by omega) | (simp; omega) | (simp; done)) ?_
              | refine Idx.lstS (by intro _; rfl) (by first | omega | assumption | exact hl _ _ | exact inK64 (by omega) (by omega) | (simp; omega) | (simp; done)) ?_
              | refine IdxS.nat (by first | omega | assumption | exact hl _ _ | exact inK64 (by omega) (by omega) | (simp; omega) | (simp; done)) ?_
              | refine IdxO.nat (by first | omega | assumption | exact hl _ _ | exact inK64 (by omega) (by omega) | (simp; omega) | (simp; done)) ?_
              | refine QuietV.mk (by kernel_rfl) ?_
              | refine Put.exp rfl ?_
              | refine SrcV.exp rfl ?_
              | refine Chk.mk (by first | rfl | exact inK64 (by omega) (by omega) | omega | assumption) ?_
              | refine Chk.mk ⟨Nat.le_of_ble_eq_true rfl, Nat.le_of_ble_eq_true rfl⟩ ?_
              | refine Idx.atS (sz := 2) (c := rngC) (fun _ => rfl) j (by omega) (by omega) ?_
              | fail))
            all_goals (conv => whnf)
            refine ⟨j + 1, h, ⟨by omega, e7⟩, by omega, ?_⟩
            exact Lf.of2 [] [] (by (repeat (first | exact Ents.nil | refine Ents.cons rfl (by first | exact Rd.any | exact Rd.ptr rfl | exact Rd.map rfl | exact Rd.sl rfl | exact Rd.same rfl | exact Rd.int (by omega) | assumption | exact Rd.same (noBox_ints _) | exact Rd.same (noBox_strs _) | exact Rd.same (noBox_intss _) | exact Rd.same (noBox_spns _) | exact Rd.same (noBox_rngs _)) ?_ | fail)); done) (by (repeat (first | exact Bxs.nil | refine Bxs.cons rfl rfl rfl (by first | exact Rb.cells (Rds.same rfl) rfl | exact Rb.cells (Rds.same (noBoxs_map (fun _ => rfl) _)) rfl | exact Rb.cells (Rds.same (noBoxs_fill (fun _ => rfl) rfl)) rfl | exact Rb.cells (Rds.same (noBoxs_flat (fun _ => rfl) _)) rfl | exact Rb.map (Res.same (noBox_set rfl _)) | exact Rb.map (Res.same (noBox_pos _ _)) | exact Rb.map (Res.same (by simp)) | exact Rb.cells (by (repeat (first | exact Rds.nil | refine Rds.cons (by first | exact Rd.any | exact Rd.ptr rfl | exact Rd.map rfl | exact Rd.sl rfl | exact Rd.same rfl | exact Rd.int (by omega) | assumption | exact Rd.same (noBox_ints _) | exact Rd.same (noBox_strs _) | exact Rd.same (noBox_intss _) | exact Rd.same (noBox_spns _) | exact Rd.same (noBox_rngs _)) ?_ | fail)); done) rfl | exact Rb.map (Res.eqs (map_succ (by omega)) (noBox_set rfl _)) | exact Rb.map (Res.eqs (pos_succ (by omega)) (noBox_pos _ _)) | exact Rb.cells (Rds.eqs (map_succ (by omega)) (noBoxs_map (fun _ => rfl) _)) rfl | assumption) ?_ | fail)); done) rfl rfl
      · rw [List.drop_of_length_le (by omega)] at h5
        have h6 : v + 1 = A.length := h5
        repeat' ((conv => whnf) <;> (first
          | refine SeqV.go mixed T0 ?_
          | exact True.intro
          | (refine Br.mk (fun _ => ?_) (fun _ => ?_) <;> (try (exfalso; omega)))
          | refine Get.exp rfl ?_
          | refine Idx.lst (by first | omega | assumption | exact hl _ _ | exact inK64 (by omega) (by omega) | (simp; omega) | (simp; done)) ?_
          | refine Idx.lstS (by intro _; rfl) (by first | omega | assumption | exact hl _ _ | exact inK64 (by omega) (by omega) | (simp; omega) | (simp; done)) ?_
          | refine IdxS.nat (by first | omega | assumption | exact hl _ _ | exact inK64 (by omega) (by omega) | (simp; omega) | (simp; done)) ?_
          | refine IdxO.nat (by first | omega | assumption | exact hl _ _ | exact inK64 (by omega) (by omega) | (simp; omega) | (simp; done)) ?_
          | refine QuietV.mk (by kernel_rfl) ?_
          | refine Put.exp rfl ?_
          | refine SrcV.exp rfl ?_
          | refine Chk.mk (by first | rfl | exact inK64 (by omega) (by omega) | omega | assumption) ?_
          | refine Chk.mk ⟨Nat.le_of_ble_eq_true rfl, Nat.le_of_ble_eq_true rfl⟩ ?_
          | refine Cll.pu (alive_c mixed) ?_
          | fail))
        all_goals (conv => whnf)
        exact RetV.same rfl rfl
    · repeat' ((conv => whnf) <;> (first
        | refine SeqV.go mixed T0 ?_
        | exact True.intro
        | (refine Br.mk (fun _ => ?_) (fun _ => ?_) <;> (try (exfalso; omega)))
        | refine Get.exp rfl ?_
        | refine Idx.lst (by first | omega | assumption | exact hl _ _ | exact inK64 (by omega) (by omega) | (simp; omega) | (simp; done)) ?_
        | refine Idx.lstS (by intro _; rfl) (by first | omega | assumption | exact hl _ _ | exact inK64 (by omega) (by omega) | (simp; omega) | (simp; done)) ?_
        | refine IdxS.nat (by first | omega | assumption | exact hl _ _ | exact inK64 (by omega) (by omega) | (simp; omega) | (simp; done)) ?_
        | refine IdxO.nat (by first | omega | assumption | exact hl _ _ | exact inK64 (by omega) (by omega) | (simp; omega) | (simp; done)) ?_
        | refine QuietV.mk (by kernel_rfl) ?_
        | refine Put.exp rfl ?_
        | refine SrcV.exp rfl ?_
        | refine Chk.mk (by first | rfl | exact inK64 (by omega) (by omega) | omega | assumption) ?_
        | refine Chk.mk ⟨Nat.le_of_ble_eq_true rfl, Nat.le_of_ble_eq_true rfl⟩ ?_
        | (refine Cll.dec (few_c (p := p) (t := t) (text := text)) (fun _ => ?_) (fun _ => ?_) <;> (try contradiction))
        | (refine Cll.dec (rvalid_c ht) (fun _ => ?_) (fun _ => ?_) <;> (try contradiction))
        | refine Cll.pu (alive_c mixed) ?_))
      all_goals (conv => whnf)
      exact RetV.same rfl rfl
  · repeat' ((conv => whnf) <;> (first
      | refine SeqV.go mixed T0 ?_
      | exact True.intro
      | (refine Br.mk (fun _ => ?_) (fun _ => ?_) <;> (try (exfalso; omega)))
      | refine Get.exp rfl ?_
      | refine Idx.lst (by first | omega | assumption | exact hl _ _ | exact inK64 (by omega) (by omega) | (simp; omega) | (simp; done)) ?_
      | refine Idx.lstS (by intro _; rfl) (by first | omega | assumption | exact hl _ _ | exact inK64 (by omega) (by omega) | (simp; omega) | (simp; done)) ?_
      | refine IdxS.nat (by first | omega | assumption | exact hl _ _ | exact inK64 (by omega) (by omega) | (simp; omega) | (simp; done)) ?_
      | refine IdxO.nat (by first | omega | assumption | exact hl _ _ | exact inK64 (by omega) (by omega) | (simp; omega) | (simp; done)) ?_
      | refine QuietV.mk (by kernel_rfl) ?_
      | refine Put.exp rfl ?_
      | refine SrcV.exp rfl ?_
      | refine Chk.mk (by first | rfl | exact inK64 (by omega) (by omega) | omega | assumption) ?_
      | refine Chk.mk ⟨Nat.le_of_ble_eq_true rfl, Nat.le_of_ble_eq_true rfl⟩ ?_
      | (refine Cll.dec (few_c (p := p) (t := t) (text := text)) (fun _ => ?_) (fun _ => ?_) <;> (try contradiction))
      | refine Cll.pu (alive_c mixed) ?_))
    all_goals (conv => whnf)
    exact RetV.same rfl rfl
end Go.Proofs.YtgcjjodbmcnhkaaGreatDoor
