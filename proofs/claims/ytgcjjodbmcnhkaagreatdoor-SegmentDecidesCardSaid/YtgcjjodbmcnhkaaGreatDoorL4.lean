/-
  The statement SegmentDecides, over data.
-/
import Derived.Test.YtgcjjodbmcnhkaaGreatDoorSB
import Derived.Test.YtgcjjodbmcnhkaaGreatDoorSA
namespace Go.Proofs.YtgcjjodbmcnhkaaGreatDoor
open Go Go.Am Classical
set_option maxRecDepth 100000

theorem acts_get {t : Tbl} {l : List Int} {k : Nat} (h : k < (acts t l).length) : (acts t l)[k] = decA t (decO t (stL t.left.next l k) (stR t.right.next l (l.length - k))) := by simp [acts]
theorem lawDecides_c {p : Prp} {t : Tbl} {text : List Int} (hp : p.ok) (ht : t.ok) : Pu Tryz.prog 7 [prpD p, tabD t, ints text] (boo true) := by
  refine Pu.of_v mixed T0 Tryz.func7 rfl rfl (by simp [noBox, noBoxs, noBox_strs, noBox_spns, noBox_ints, noBox_intss]) ?_
  by_cases hf : Few p t text
  · have h1 := hf.1
    have h2 := hf.2.1
    have h3 := hf.2.2.2
    by_cases hv : TV t
    · have hc := Classes_c (text := text) hp ht (by omega) (by omega) (by omega)
      rw [if_pos hv] at hc
      have hs := sActions_c (text := text) hp ht (by omega) (by omega) (by omega)
      have hb := sBoundaries_c (text := text) hp ht (by omega) (by omega) (by omega)
      have hb2 := bnd_len (p := p) (t := t) (text := text) (by omega)
      have hok := named_ok (p := p) (text := text) hv
      have hn : (namedV p t.classes text).length = text.length := by simp [namedV]
      have ha : (acts t (namedV p t.classes text)).length = text.length + 1 := by rw [acts_len, hn]
      have he := Ends_c (l := acts t (namedV p t.classes text)) (by omega)
      rw [bndV] at hb hb2
      rw [actV, if_pos hv] at hs hb hb2
      generalize namedV p t.classes text = C at hc hs hb hb2 hok hn ha he
      repeat' ((conv => whnf) <;> (first
        | refine SeqV.go mixed T0 ?_
        | exact True.intro
        | (refine Br.mk (fun _ => ?_) (fun _ => ?_) <;> (try (exfalso; omega)))
        | refine Get.exp rfl ?_
        | refine Idx.lst (by first | omega | assumption | exact hl _ _ | exact inK64 (by omega) (by omega) | (simp; omega) | (simp; done)) ?_
        | refine Idx.lstS (by intro _; rfl) (by first | omega | assumption | exact hl _ _ | exact inK64 (by omega) (by omega) | (simp; omega) | (simp; done)) ?_
        | refine IdxS.nat (by first | omega | assumption | exact hl _ _ | exact inK64 (by omega) (by omega) | (simp; omega) | (simp; done)) ?_
        | refine IdxO.nat (by first | omega | assumption | exact hl _ _ | exact inK64 (by omega) (by omega) | (simp; omega) | (simp; done)) ?_
        | refine QuietV.mk (by kernel_rfl) ?_
        | refine Put.exp rfl ?_
        | refine SrcV.exp rfl ?_
        | refine Chk.mk (by first | rfl | exact inK64 (by omega) (by omega) | omega | assumption) ?_
        | refine Chk.mk ⟨Nat.le_of_ble_eq_true rfl, Nat.le_of_ble_eq_true rfl⟩ ?_
        | (refine Cll.dec (few_c (p := p) (t := t) (text := text)) (fun _ => ?_) (fun _ => ?_) <;> (try contradiction))
        | (refine Cll.dec (valid_c ht) (fun _ => ?_) (fun _ => ?_) <;> (try contradiction))
        | refine Cll.pu hc ?_
        | refine Cll.pu hs ?_))
      all_goals (conv => whnf)
      refine LoopV.by mixed T0 (fun k : Nat => ⟨tmp 73 [(2, ints text), (3, .ptr 0 0), (4, .ptr 1 0), (7, ints C), (8, ints (acts t C)), (9, i64 (k : Int))], ⟨2, [(0, .cells [strs p.names, spns p.spans] true), (1, .cells [strs t.classes, ints t.actions, intss t.left.next, intss t.left.marks, intss t.right.next, intss t.right.marks] true)]⟩⟩)
        (fun k => k ≤ (acts t C).length) (fun k => (acts t C).length - k) 0 (by omega) ?_ ?_
      · exact Lf.of2 [(0, _), (1, _)] [] (by repeat (first | exact Ents.nil | refine Ents.cons rfl (by first | exact Rd.any | exact Rd.ptr rfl | exact Rd.map rfl | exact Rd.sl rfl | exact Rd.same rfl | exact Rd.int (by omega) | assumption | exact Rd.same (noBox_ints _) | exact Rd.same (noBox_strs _) | exact Rd.same (noBox_intss _) | exact Rd.same (noBox_spns _)) ?_)) (by repeat (first | exact Bxs.nil | refine Bxs.cons rfl rfl rfl (by first | exact Rb.cells (Rds.same rfl) rfl | exact Rb.cells (Rds.same (noBoxs_map (fun _ => rfl) _)) rfl | exact Rb.cells (Rds.same (noBoxs_fill (fun _ => rfl) rfl)) rfl | exact Rb.cells (Rds.same (noBoxs_flat (fun _ => rfl) _)) rfl | exact Rb.map (Res.same (noBox_set rfl _)) | exact Rb.map (Res.same (noBox_pos _ _)) | exact Rb.map (Res.same (by simp)) | exact Rb.cells (by repeat (first | exact Rds.nil | refine Rds.cons (by first | exact Rd.any | exact Rd.ptr rfl | exact Rd.map rfl | exact Rd.sl rfl | exact Rd.same rfl | exact Rd.int (by omega) | assumption | exact Rd.same (noBox_ints _) | exact Rd.same (noBox_strs _) | exact Rd.same (noBox_intss _) | exact Rd.same (noBox_spns _)) ?_)) rfl | exact Rb.map (Res.eqs (map_succ (by omega)) (noBox_set rfl _)) | exact Rb.map (Res.eqs (pos_succ (by omega)) (noBox_pos _ _)) | exact Rb.cells (Rds.eqs (map_succ (by omega)) (noBoxs_map (fun _ => rfl) _)) rfl | assumption) ?_)) rfl rfl
      intro k h4
      by_cases hk : k < (acts t C).length
      · have hd := bDecide_c (k := k) ht (by omega) hok (by omega)
        rw [← acts_get hk] at hd
        repeat' ((conv => whnf) <;> (first
          | refine SeqV.go mixed T0 ?_
          | exact True.intro
          | (refine Br.mk (fun _ => ?_) (fun _ => ?_) <;> (try (exfalso; omega)))
          | refine Get.exp rfl ?_
          | refine Idx.lst (by first | omega | assumption | exact hl _ _ | exact inK64 (by omega) (by omega) | (simp; omega) | (simp; done)) ?_
          | refine Idx.lstS (by intro _; rfl) (by first | omega | assumption | exact hl _ _ | exact inK64 (by omega) (by omega) | (simp; omega) | (simp; done)) ?_
          | refine IdxS.nat (by first | omega | assumption | exact hl _ _ | exact inK64 (by omega) (by omega) | (simp; omega) | (simp; done)) ?_
          | refine IdxO.nat (by first | omega | assumption | exact hl _ _ | exact inK64 (by omega) (by omega) | (simp; omega) | (simp; done)) ?_
          | refine QuietV.mk (by kernel_rfl) ?_
          | refine Put.exp rfl ?_
          | refine SrcV.exp rfl ?_
          | refine Chk.mk (by first | rfl | exact inK64 (by omega) (by omega) | omega | assumption) ?_
          | refine Chk.mk ⟨Nat.le_of_ble_eq_true rfl, Nat.le_of_ble_eq_true rfl⟩ ?_
          | refine Cll.pu hd ?_))
        all_goals (conv => whnf)
        refine ⟨k + 1, by omega, by omega, ?_⟩
        exact Lf.of2 [(0, _), (1, _)] [] (by repeat (first | exact Ents.nil | refine Ents.cons rfl (by first | exact Rd.any | exact Rd.ptr rfl | exact Rd.map rfl | exact Rd.sl rfl | exact Rd.same rfl | exact Rd.int (by omega) | assumption | exact Rd.same (noBox_ints _) | exact Rd.same (noBox_strs _) | exact Rd.same (noBox_intss _) | exact Rd.same (noBox_spns _)) ?_)) (by repeat (first | exact Bxs.nil | refine Bxs.cons rfl rfl rfl (by first | exact Rb.cells (Rds.same rfl) rfl | exact Rb.cells (Rds.same (noBoxs_map (fun _ => rfl) _)) rfl | exact Rb.cells (Rds.same (noBoxs_fill (fun _ => rfl) rfl)) rfl | exact Rb.cells (Rds.same (noBoxs_flat (fun _ => rfl) _)) rfl | exact Rb.map (Res.same (noBox_set rfl _)) | exact Rb.map (Res.same (noBox_pos _ _)) | exact Rb.map (Res.same (by simp)) | exact Rb.cells (by repeat (first | exact Rds.nil | refine Rds.cons (by first | exact Rd.any | exact Rd.ptr rfl | exact Rd.map rfl | exact Rd.sl rfl | exact Rd.same rfl | exact Rd.int (by omega) | assumption | exact Rd.same (noBox_ints _) | exact Rd.same (noBox_strs _) | exact Rd.same (noBox_intss _) | exact Rd.same (noBox_spns _)) ?_)) rfl | exact Rb.map (Res.eqs (map_succ (by omega)) (noBox_set rfl _)) | exact Rb.map (Res.eqs (pos_succ (by omega)) (noBox_pos _ _)) | exact Rb.cells (Rds.eqs (map_succ (by omega)) (noBoxs_map (fun _ => rfl) _)) rfl | assumption) ?_)) rfl rfl
      · repeat' ((conv => whnf) <;> (first
          | refine SeqV.go mixed T0 ?_
          | exact True.intro
          | (refine Br.mk (fun _ => ?_) (fun _ => ?_) <;> (try (exfalso; omega)))
          | refine Get.exp rfl ?_
          | refine Idx.lst (by first | omega | assumption | exact hl _ _ | exact inK64 (by omega) (by omega) | (simp; omega) | (simp; done)) ?_
          | refine Idx.lstS (by intro _; rfl) (by first | omega | assumption | exact hl _ _ | exact inK64 (by omega) (by omega) | (simp; omega) | (simp; done)) ?_
          | refine IdxS.nat (by first | omega | assumption | exact hl _ _ | exact inK64 (by omega) (by omega) | (simp; omega) | (simp; done)) ?_
          | refine IdxO.nat (by first | omega | assumption | exact hl _ _ | exact inK64 (by omega) (by omega) | (simp; omega) | (simp; done)) ?_
          | refine QuietV.mk (by kernel_rfl) ?_
          | refine Put.exp rfl ?_
          | refine SrcV.exp rfl ?_
          | refine Chk.mk (by first | rfl | exact inK64 (by omega) (by omega) | omega | assumption) ?_
          | refine Chk.mk ⟨Nat.le_of_ble_eq_true rfl, Nat.le_of_ble_eq_true rfl⟩ ?_
          | refine Cll.pu hb ?_
          | refine Cll.pu he ?_
          | (refine Cll.dec (Equal_c (by omega)) (fun _ => ?_) (fun hne => absurd rfl hne))
          | refine Cll.pu (alive_c mixed) ?_))
        all_goals (conv => whnf)
        exact RetV.same rfl rfl
    · repeat' ((conv => whnf) <;> (first
        | refine SeqV.go mixed T0 ?_
        | exact True.intro
        | (refine Br.mk (fun _ => ?_) (fun _ => ?_) <;> (try (exfalso; omega)))
        | refine Get.exp rfl ?_
        | refine Idx.lst (by first | omega | assumption | exact hl _ _ | exact inK64 (by omega) (by omega) | (simp; omega) | (simp; done)) ?_
        | refine Idx.lstS (by intro _; rfl) (by first | omega | assumption | exact hl _ _ | exact inK64 (by omega) (by omega) | (simp; omega) | (simp; done)) ?_
        | refine IdxS.nat (by first | omega | assumption | exact hl _ _ | exact inK64 (by omega) (by omega) | (simp; omega) | (simp; done)) ?_
        | refine IdxO.nat (by first | omega | assumption | exact hl _ _ | exact inK64 (by omega) (by omega) | (simp; omega) | (simp; done)) ?_
        | refine QuietV.mk (by kernel_rfl) ?_
        | refine Put.exp rfl ?_
        | refine SrcV.exp rfl ?_
        | refine Chk.mk (by first | rfl | exact inK64 (by omega) (by omega) | omega | assumption) ?_
        | refine Chk.mk ⟨Nat.le_of_ble_eq_true rfl, Nat.le_of_ble_eq_true rfl⟩ ?_
        | (refine Cll.dec (few_c (p := p) (t := t) (text := text)) (fun _ => ?_) (fun _ => ?_) <;> (try contradiction))
        | (refine Cll.dec (valid_c ht) (fun _ => ?_) (fun _ => ?_) <;> (try contradiction))
        | refine Cll.pu (alive_c mixed) ?_))
      all_goals (conv => whnf)
      exact RetV.same rfl rfl
  · repeat' ((conv => whnf) <;> (first
      | refine SeqV.go mixed T0 ?_
      | exact True.intro
      | (refine Br.mk (fun _ => ?_) (fun _ => ?_) <;> (try (exfalso; omega)))
      | refine Get.exp rfl ?_
      | refine Idx.lst (by first | omega | assumption | exact hl _ _ | exact inK64 (by omega) (by omega) | (simp; omega) | (simp; done)) ?_
      | refine Idx.lstS (by intro _; rfl) (by first | omega | assumption | exact hl _ _ | exact inK64 (by omega) (by omega) | (simp; omega) | (simp; done)) ?_
      | refine IdxS.nat (by first | omega | assumption | exact hl _ _ | exact inK64 (by omega) (by omega) | (simp; omega) | (simp; done)) ?_
      | refine IdxO.nat (by first | omega | assumption | exact hl _ _ | exact inK64 (by omega) (by omega) | (simp; omega) | (simp; done)) ?_
      | refine QuietV.mk (by kernel_rfl) ?_
      | refine Put.exp rfl ?_
      | refine SrcV.exp rfl ?_
      | refine Chk.mk (by first | rfl | exact inK64 (by omega) (by omega) | omega | assumption) ?_
      | refine Chk.mk ⟨Nat.le_of_ble_eq_true rfl, Nat.le_of_ble_eq_true rfl⟩ ?_
      | (refine Cll.dec (few_c (p := p) (t := t) (text := text)) (fun _ => ?_) (fun _ => ?_) <;> (try contradiction))
      | refine Cll.pu (alive_c mixed) ?_))
    all_goals (conv => whnf)
    exact RetV.same rfl rfl
end Go.Proofs.YtgcjjodbmcnhkaaGreatDoor
