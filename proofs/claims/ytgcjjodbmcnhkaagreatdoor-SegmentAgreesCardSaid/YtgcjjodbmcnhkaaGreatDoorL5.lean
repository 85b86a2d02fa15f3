/-
  The statement SegmentParts, over data.
-/
import Derived.Test.YtgcjjodbmcnhkaaGreatDoorSF
import Derived.Test.YtgcjjodbmcnhkaaGreatDoorSA
namespace Go.Proofs.YtgcjjodbmcnhkaaGreatDoor
open Go Go.Am Classical
set_option maxRecDepth 100000

theorem btw_len : ∀ (l : List Int) (s : Int), (btw s l).length ≤ l.length
  | [], _ => by simp [btw]
  | e :: l, s => by
    have h1 := btw_len l e
    have h2 := btw_len l s
    by_cases h : s < e
    · rw [btw_yes h]; simp only [List.length_cons]; omega
    · rw [btw_no h]; simp only [List.length_cons]; omega
theorem prt_len (p : Prp) (t : Tbl) (text : List Int) (h : text.length ≤ 1000) : (prtV p t text).length ≤ 1002 := by
  have := bnd_len (p := p) (t := t) h
  unfold prtV
  split
  · refine Nat.le_trans (btw_len _ _) ?_
    simp only [List.length_append, List.length_singleton]; omega
  · simp
theorem prt_max (p : Prp) (t : Tbl) (text : List Int) (h : text.length ≤ 1000) : (prtV p t text).length ≤ 9223372036854775807 := by
  have := prt_len p t text h
  omega
theorem lawParts_c {p : Prp} {t : Tbl} {text : List Int} (hp : p.ok) (ht : t.ok) : Pu Tryz.prog 8 [prpD p, tabD t, ints text] (boo true) := by
  refine Pu.of_v mixed T0 Tryz.func8 rfl rfl (by simp [noBox, noBoxs, noBox_strs, noBox_spns, noBox_ints, noBox_intss]) ?_
  by_cases hf : Few p t text
  · have h1 := hf.1
    have h2 := hf.2.1
    have h3 := hf.2.2.2
    have hs := Parts_c (text := text) hp ht (by omega) (by omega) (by omega)
    have hr := rParts_c (text := text) hp ht (by omega)
    have hc := Count_c (text := text) hp ht (by omega) (by omega) (by omega)
    have hd := rCount_c (text := text) hp ht (by omega)
    have hm := prt_max p t text (by omega)
    repeat' ((conv => whnf) <;> (first
      | refine SeqV.go mixed T0 ?_
      | exact True.intro
      | (refine Br.mk (fun _ => ?_) (fun _ => ?_) <;> (try (exfalso; omega)))
      | refine Get.exp rfl ?_
      | refine Idx.lst (by first | omega | assumption | exact hl _ _ | exact inK64 (by omega) (by omega) | (simp; omega) | (simp; done)) ?_
      | refine Idx.lstS (by intro _; rfl) (by first | omega | assumption | exact hl _ _ | exact inK64 (by omega) (by omega) | (simp; omega) | (simp; done)) ?_
      | refine IdxS.nat (by first | omega | assumption | exact hl _ _ | exact inK64 (by omega) (by omega) | (simp; omega) | (simp; done)) ?_
      | refine IdxO.nat (by first | omega | assumption | exact hl _ _ | exact inK64 (by omega) (by omega) | (simp; omega) | (simp; done)) ?_
      | refine QuietV.mk (by kernel_rfl) ?_
      | refine Put.exp rfl ?_
      | refine SrcV.exp rfl ?_
      | refine Chk.mk (by first | rfl | exact inK64 (by omega) (by omega) | omega | assumption) ?_
      | refine Chk.mk ⟨Nat.le_of_ble_eq_true rfl, Nat.le_of_ble_eq_true rfl⟩ ?_
      | (refine Cll.dec (few_c (p := p) (t := t) (text := text)) (fun _ => ?_) (fun _ => ?_) <;> (try contradiction))
      | refine DrawV.by mixed T0 [0, 0, 0, 7, 0, 0, 0, 127, 255, 511, 1023, 1023, 1023, 8191, 1023, 1023, 1023, 131071, 262143, 524287, 1048575, 2097151, 4194303, 8388607] (by kernel_rfl) ?_
      | refine Cal0.pu hs ?_
      | refine Cal0.pu hr ?_
      | refine Cal0.pu hc ?_
      | refine Cal0.pu hd ?_
      | (refine Cal0.dec (SameRanges_c hm hm) (fun _ => ?_) (fun hne => absurd rfl hne))
      | refine Cal0.pu (alive_c mixed) ?_
      | fail))
    all_goals (conv => whnf)
    all_goals first
      | exact RetV.same rfl rfl
      | contradiction
      | (rename_i hne; exact absurd rfl hne)
  · repeat' ((conv => whnf) <;> (first
      | refine SeqV.go mixed T0 ?_
      | exact True.intro
      | (refine Br.mk (fun _ => ?_) (fun _ => ?_) <;> (try (exfalso; omega)))
      | refine Get.exp rfl ?_
      | refine Idx.lst (by first | omega | assumption | exact hl _ _ | exact inK64 (by omega) (by omega) | (simp; omega) | (simp; done)) ?_
      | refine Idx.lstS (by intro _; rfl) (by first | omega | assumption | exact hl _ _ | exact inK64 (by omega) (by omega) | (simp; omega) | (simp; done)) ?_
      | refine IdxS.nat (by first | omega | assumption | exact hl _ _ | exact inK64 (by omega) (by omega) | (simp; omega) | (simp; done)) ?_
      | refine IdxO.nat (by first | omega | assumption | exact hl _ _ | exact inK64 (by omega) (by omega) | (simp; omega) | (simp; done)) ?_
      | refine QuietV.mk (by kernel_rfl) ?_
      | refine Put.exp rfl ?_
      | refine SrcV.exp rfl ?_
      | refine Chk.mk (by first | rfl | exact inK64 (by omega) (by omega) | omega | assumption) ?_
      | refine Chk.mk ⟨Nat.le_of_ble_eq_true rfl, Nat.le_of_ble_eq_true rfl⟩ ?_
      | (refine Cll.dec (few_c (p := p) (t := t) (text := text)) (fun _ => ?_) (fun _ => ?_) <;> (try contradiction))
      | refine Cll.pu (alive_c mixed) ?_))
    all_goals (conv => whnf)
    exact RetV.same rfl rfl
end Go.Proofs.YtgcjjodbmcnhkaaGreatDoor
