/-
  The statement SegmentBoundaries, over data.
-/
import Derived.Test.YtgcjjodbmcnhkaaGreatDoorSB
import Derived.Test.YtgcjjodbmcnhkaaGreatDoorSA
namespace Go.Proofs.YtgcjjodbmcnhkaaGreatDoor
open Go Go.Am Classical
set_option maxRecDepth 100000

theorem bnd_max (p : Prp) (t : Tbl) (text : List Int) (h : text.length ≤ 1000) : (bndV p t text).length ≤ 9223372036854775807 := by
  have := bnd_len (p := p) (t := t) h
  omega
theorem lawBoundaries_c {p : Prp} {t : Tbl} {text : List Int} (hp : p.ok) (ht : t.ok) : Pu Tryz.prog 5 [prpD p, tabD t, ints text] (boo true) := by
  refine Pu.of_v mixed T0 Tryz.func5 rfl rfl (by simp [noBox, noBoxs, noBox_strs, noBox_spns, noBox_ints, noBox_intss]) ?_
  by_cases hf : Few p t text
  · have h1 := hf.1
    have h2 := hf.2.1
    have h3 := hf.2.2.2
    have hs := sBoundaries_c (text := text) hp ht (by omega) (by omega) (by omega)
    have hr := rsBoundaries_c (text := text) hp ht (by omega)
    repeat' ((conv => whnf) <;> (first
      | refine SeqV.go mixed T0 ?_
      | exact True.intro
      | (refine Br.mk (fun _ => ?_) (fun _ => ?_) <;> (try (exfalso; omega)))
      | refine Get.exp rfl ?_
      | refine Idx.lst (by first | omega | assumption | exact hl _ _ | exact inK64 (by omega) (by omega) | (simp; omega) | (simp; done)) ?_
      | refine Idx.lstS (by intro _; rfl) (by first | omega | assumption | exact hl _ _ | exact inK64 (by omega) (by omega) | (simp; omega) | (simp; done)) ?_
      | refine IdxS.nat (by first | omega | assumption | exact hl _ _ | exact inK64 (by omega) (by omega) | (simp; omega) | (simp; done)) ?_
      | refine IdxO.nat (by first | omega | assumption | exact hl _ _ | exact inK64 (by omega) (by omega) | (simp; omega) | (simp; done)) ?_
      | refine QuietV.mk (by kernel_rfl) ?_
      | refine Put.exp rfl ?_
      | refine SrcV.exp rfl ?_
      | refine Chk.mk (by first | rfl | exact inK64 (by omega) (by omega) | omega | assumption) ?_
      | refine Chk.mk ⟨Nat.le_of_ble_eq_true rfl, Nat.le_of_ble_eq_true rfl⟩ ?_
      | (refine Cll.dec (few_c (p := p) (t := t) (text := text)) (fun _ => ?_) (fun _ => ?_) <;> (try contradiction))
      | refine DrawV.by mixed T0 [0, 0, 0, 7, 0, 0, 0, 127, 255, 511, 1023, 2047, 4095] (by kernel_rfl) ?_
      | refine Cal0.pu hs ?_
      | refine Cal0.pu hr ?_
      | (refine Cal0.dec (Equal_c (bnd_max p t text (by omega))) (fun _ => ?_) (fun hne => absurd rfl hne))
      | refine Cal0.pu (alive_c mixed) ?_))
    all_goals (conv => whnf)
    exact RetV.same rfl rfl
  · repeat' ((conv => whnf) <;> (first
      | refine SeqV.go mixed T0 ?_
      | exact True.intro
      | (refine Br.mk (fun _ => ?_) (fun _ => ?_) <;> (try (exfalso; omega)))
      | refine Get.exp rfl ?_
      | refine Idx.lst (by first | omega | assumption | exact hl _ _ | exact inK64 (by omega) (by omega) | (simp; omega) | (simp; done)) ?_
      | refine Idx.lstS (by intro _; rfl) (by first | omega | assumption | exact hl _ _ | exact inK64 (by omega) (by omega) | (simp; omega) | (simp; done)) ?_
      | refine IdxS.nat (by first | omega | assumption | exact hl _ _ | exact inK64 (by omega) (by omega) | (simp; omega) | (simp; done)) ?_
      | refine IdxO.nat (by first | omega | assumption | exact hl _ _ | exact inK64 (by omega) (by omega) | (simp; omega) | (simp; done)) ?_
      | refine QuietV.mk (by kernel_rfl) ?_
      | refine Put.exp rfl ?_
      | refine SrcV.exp rfl ?_
      | refine Chk.mk (by first | rfl | exact inK64 (by omega) (by omega) | omega | assumption) ?_
      | refine Chk.mk ⟨Nat.le_of_ble_eq_true rfl, Nat.le_of_ble_eq_true rfl⟩ ?_
      | (refine Cll.dec (few_c (p := p) (t := t) (text := text)) (fun _ => ?_) (fun _ => ?_) <;> (try contradiction))
      | refine Cll.pu (alive_c mixed) ?_))
    all_goals (conv => whnf)
    exact RetV.same rfl rfl
end Go.Proofs.YtgcjjodbmcnhkaaGreatDoor
