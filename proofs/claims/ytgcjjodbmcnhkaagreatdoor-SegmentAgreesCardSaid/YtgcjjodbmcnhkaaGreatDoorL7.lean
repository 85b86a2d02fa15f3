/-
  The statement SegmentAgrees, over data.
-/
import Derived.Test.YtgcjjodbmcnhkaaGreatDoorL5
namespace Go.Proofs.YtgcjjodbmcnhkaaGreatDoor
open Go Go.Am Classical
set_option maxRecDepth 100000

noncomputable def clsV (p : Prp) (t : Tbl) (text : List Int) : List Int := if TV t then namedV p t.classes text else []
theorem act_agree {p q : Prp} {t : Tbl} {a b : List Int} (h : clsV p t a = clsV q t b) : actV p t a = actV q t b := by
  unfold actV
  unfold clsV at h
  by_cases hv : TV t
  · rw [if_pos hv, if_pos hv] at h
    rw [if_pos hv, if_pos hv, h]
  · rw [if_neg hv, if_neg hv]
theorem bnd_agree {p q : Prp} {t : Tbl} {a b : List Int} (h : clsV p t a = clsV q t b) : bndV p t a = bndV q t b := by
  unfold bndV; rw [act_agree h]
theorem prt_agree {p q : Prp} {t : Tbl} {a b : List Int} (h : clsV p t a = clsV q t b) (hl : a.length = b.length) : prtV p t a = prtV q t b := by
  unfold prtV; rw [bnd_agree h, hl]
theorem cls_len {p : Prp} {t : Tbl} {text : List Int} (h : text.length ≤ 1000) : (clsV p t text).length ≤ 9223372036854775807 := by
  unfold clsV
  split
  · simp only [namedV, List.length_map]; omega
  · simp
abbrev twoD (p q : Prp) (a b : List Int) : D := .agg [strs p.names, spns p.spans, strs q.names, spns q.spans, ints a, ints b]

theorem flat_inj {α : Type} {c : α → List D} {sz : Nat} (hc : ∀ x, (c x).length = sz) (inj : ∀ x y, c x = c y → x = y) : ∀ {l m : List α}, l.length = m.length → l.flatMap c = m.flatMap c → l = m
  | [], [], _, _ => rfl
  | [], _ :: _, h, _ => by simp at h
  | _ :: _, [], h, _ => by simp at h
  | x :: l, y :: m, h, e => by
    simp only [List.flatMap_cons] at e
    obtain ⟨e1, e2⟩ := List.append_inj e (by rw [hc, hc])
    rw [inj x y e1, flat_inj hc inj (by simpa using h) e2]
theorem lst_inj {α : Type} {f : α → D} (inj : ∀ x y, f x = f y → x = y) {l m : List α} (h : lst f l = lst f m) : l = m := by
  simp only [lst, D.imm.injEq] at h
  exact List.map_inj_right (fun x y e => inj x y e) |>.1 h.2
theorem ds_inj {p q : Prp} {t u : D} {a b : List Int} (h : [prpD p, t, ints a] = [prpD q, u, ints b]) : p = q ∧ a = b := by
  simp only [List.cons.injEq, D.agg.injEq, and_true] at h
  obtain ⟨⟨h1, h2⟩, _, h3⟩ := h
  have e1 := lst_inj (fun x y e => by injection e) h1
  have e3 := lst_inj (fun x y e => by injection e with e; injection e) h3
  simp only [lstS, D.imm.injEq] at h2
  have e2 := flat_inj (sz := 3) (fun _ => rfl) (fun x y e => by
    cases x; cases y
    simp only [List.cons.injEq, D.v.injEq, Value.int.injEq, true_and, and_true] at e
    obtain ⟨rfl, rfl, rfl⟩ := e
    rfl) h2.1 h2.2
  cases p; cases q
  simp only at e1 e2
  exact ⟨by rw [e1, e2], e3⟩

theorem lawAgrees_c {p q : Prp} {t : Tbl} {a b : List Int} (hp : p.ok) (hq : q.ok) (ht : t.ok) : Pu Tryz.prog 10 [twoD p q a b, tabD t] (boo true) := by
  refine Pu.of_v mixed T0 Tryz.func10 rfl rfl (by simp [noBox, noBoxs, noBox_strs, noBox_spns, noBox_ints, noBox_intss]) ?_
  by_cases hf : Few p t a
  · have h1 := hf.1
    have h2 := hf.2.1
    have h3 := hf.2.2.2
    by_cases hg : Few q t b
    · have g1 := hg.1
      have g2 := hg.2.1
      have g3 := hg.2.2.2
      have hc : Pu Tryz.prog 14 [prpD p, tabD t, ints a] (ints (clsV p t a)) := Classes_c (text := a) hp ht (by omega) (by omega) (by omega)
      have gc : Pu Tryz.prog 14 [prpD q, tabD t, ints b] (ints (clsV q t b)) := Classes_c (text := b) hq ht (by omega) (by omega) (by omega)
      have he := Equal_c (a := clsV p t a) (b := clsV q t b) (cls_len (by omega))
      by_cases hx : clsV p t a = clsV q t b ∧ a.length = b.length
      · have ha := sActions_c (text := a) hp ht (by omega) (by omega) (by omega)
        have ga := sActions_c (text := b) hq ht (by omega) (by omega) (by omega)
        have hb := sBoundaries_c (text := a) hp ht (by omega) (by omega) (by omega)
        have gb := sBoundaries_c (text := b) hq ht (by omega) (by omega) (by omega)
        have hr := Parts_c (text := a) hp ht (by omega) (by omega) (by omega)
        have gr := Parts_c (text := b) hq ht (by omega) (by omega) (by omega)
        have l1 : (actV q t b).length ≤ 9223372036854775807 := by have := act_le (p := q) (t := t) (text := b) (by omega); omega
        have l2 : (bndV q t b).length ≤ 9223372036854775807 := by have := bnd_len (p := q) (t := t) (text := b) (by omega); omega
        have l3 := prt_max q t b (by omega)
        obtain ⟨hx1, hx2⟩ := hx
        rw [hx1] at hc he
        rw [act_agree hx1] at ha
        rw [bnd_agree hx1] at hb
        rw [prt_agree hx1 hx2] at hr
        repeat' ((conv => whnf) <;> (first
          | refine SeqV.go mixed T0 ?_
          | exact True.intro
          | (refine Br.mk (fun _ => ?_) (fun _ => ?_) <;> (try (exfalso; omega)))
          | refine Get.exp rfl ?_
          | refine Idx.lst (by first | omega | assumption | exact hl _ _ | exact inK64 (by omega) (by omega) | (simp; omega) | (simp; done)) ?_
          | refine Idx.lstS (by intro _; rfl) (by first | omega | assumption | exact hl _ _ | exact inK64 (by omega) (by omega) | (simp; omega) | (simp; done)) ?_
          | refine IdxS.nat (by first | omega | assumption | exact hl _ _ | exact inK64 (by omega) (by omega) | (simp; omega) | (simp; done)) ?_
          | refine IdxO.nat (by first | omega | assumption | exact hl _ _ | exact inK64 (by omega) (by omega) | (simp; omega) | (simp; done)) ?_
          | refine QuietV.mk (by kernel_rfl) ?_
          | refine Put.exp rfl ?_
          | refine SrcV.exp rfl ?_
          | refine Chk.mk (by first | rfl | exact inK64 (by omega) (by omega) | omega | assumption) ?_
          | refine Chk.mk ⟨Nat.le_of_ble_eq_true rfl, Nat.le_of_ble_eq_true rfl⟩ ?_
          | refine DrawV.by mixed T0 [0, 1, 0, 0, 8, 31, 63, 127, 255, 511, 255, 255, 2303, 8191, 16383, 32767, 65535, 131071, 262143, 131071, 131071, 1179647, 4194303, 131071, 8519679, 131071, 131071, 67239935, 268435455, 536870911, 1073741823, 2147483647, 4294967295, 8589934591, 17179869183, 34359738367, 8589934591, 77309411327, 214748364799, 549755813887, 1099511627775] (by kernel_rfl) ?_
          | refine DrawV.by mixed T0 [0, 1, 0, 0, 8, 31, 0, 64, 0, 0, 512, 2047, 4095, 8191, 16383, 32767, 16383, 16383, 147455, 524287, 16383, 1064959, 16383, 16383, 8404991, 33554431, 67108863, 134217727, 268435455, 536870911, 1073741823, 536870911, 536870911, 4831838207, 17179869183, 536870911, 34896609279, 536870911, 536870911, 275414777855, 1099511627775, 2199023255551, 4398046511103, 8796093022207, 17592186044415, 35184372088831, 70368744177663] (by kernel_rfl) ?_
          | refine Chk.mk (fun _ => rfl) ?_
          | (refine Cal0.dec (few_c (p := p) (t := t) (text := a)) (fun _ => ?_) (fun _ => ?_) <;> (try contradiction))
          | (refine Cal0.dec (few_c (p := q) (t := t) (text := b)) (fun _ => ?_) (fun _ => ?_) <;> (try contradiction))
          | refine Cal0.pu hc ?_
          | refine Cal0.pu gc ?_
          | (refine Cal0.dec he (fun _ => ?_) (fun _ => ?_) <;> (try contradiction))
          | refine Cal0.pu ha ?_
          | refine Cal0.pu ga ?_
          | refine Cal0.pu hb ?_
          | refine Cal0.pu gb ?_
          | refine Cal0.pu hr ?_
          | refine Cal0.pu gr ?_
          | (refine Cal0.dec (Equal_c l1) (fun _ => ?_) (fun hne => absurd rfl hne))
          | (refine Cal0.dec (Equal_c l2) (fun _ => ?_) (fun hne => absurd rfl hne))
          | (refine Cal0.dec (SameRanges_c l3 l3) (fun _ => ?_) (fun hne => absurd rfl hne))
          | refine Cal0.pu (alive_c mixed) ?_
          | fail))
        all_goals (conv => whnf)
        exact RetV.same rfl rfl
      · by_cases hx1 : clsV p t a = clsV q t b
        · have hx2 : ¬ a.length = b.length := fun h => hx ⟨hx1, h⟩
          rw [hx1] at hc he
          repeat' ((conv => whnf) <;> (first
            | refine SeqV.go mixed T0 ?_
            | exact True.intro
            | (refine Br.mk (fun _ => ?_) (fun _ => ?_) <;> (try (exfalso; omega)))
            | refine Get.exp rfl ?_
            | refine Idx.lst (by first | omega | assumption | exact hl _ _ | exact inK64 (by omega) (by omega) | (simp; omega) | (simp; done)) ?_
            | refine Idx.lstS (by intro _; rfl) (by first | omega | assumption | exact hl _ _ | exact inK64 (by omega) (by omega) | (simp; omega) | (simp; done)) ?_
            | refine IdxS.nat (by first | omega | assumption | exact hl _ _ | exact inK64 (by omega) (by omega) | (simp; omega) | (simp; done)) ?_
            | refine IdxO.nat (by first | omega | assumption | exact hl _ _ | exact inK64 (by omega) (by omega) | (simp; omega) | (simp; done)) ?_
            | refine QuietV.mk (by kernel_rfl) ?_
            | refine Put.exp rfl ?_
            | refine SrcV.exp rfl ?_
            | refine Chk.mk (by first | rfl | exact inK64 (by omega) (by omega) | omega | assumption) ?_
            | refine Chk.mk ⟨Nat.le_of_ble_eq_true rfl, Nat.le_of_ble_eq_true rfl⟩ ?_
            | refine DrawV.by mixed T0 [0, 1, 0, 0, 8, 31, 63, 127, 255, 511, 255, 255, 2303, 8191, 16383, 32767, 65535, 131071, 262143, 131071, 131071, 1179647, 4194303, 131071, 8519679, 131071, 131071, 67239935, 268435455, 536870911, 1073741823, 2147483647, 4294967295, 8589934591, 17179869183, 34359738367, 8589934591, 77309411327, 214748364799, 549755813887, 1099511627775] (by kernel_rfl) ?_
            | refine DrawV.by mixed T0 [0, 1, 0, 0, 8, 31, 0, 64, 0, 0, 512, 2047, 4095, 8191, 16383, 32767, 16383, 16383, 147455, 524287, 16383, 1064959, 16383, 16383, 8404991, 33554431, 67108863, 134217727, 268435455, 536870911, 1073741823, 536870911, 536870911, 4831838207, 17179869183, 536870911, 34896609279, 536870911, 536870911, 275414777855, 1099511627775, 2199023255551, 4398046511103, 8796093022207, 17592186044415, 35184372088831, 70368744177663] (by kernel_rfl) ?_
            | refine Chk.mk (fun _ => rfl) ?_
            | (refine Cal0.dec (few_c (p := p) (t := t) (text := a)) (fun _ => ?_) (fun _ => ?_) <;> (try contradiction))
            | (refine Cal0.dec (few_c (p := q) (t := t) (text := b)) (fun _ => ?_) (fun _ => ?_) <;> (try contradiction))
            | refine Cal0.pu hc ?_
            | refine Cal0.pu gc ?_
            | (refine Cal0.dec he (fun _ => ?_) (fun _ => ?_) <;> (try contradiction))
            | refine Cll.pu (alive_c mixed) ?_
            | fail))
          all_goals (conv => whnf)
          exact RetV.same rfl rfl
        · repeat' ((conv => whnf) <;> (first
            | refine SeqV.go mixed T0 ?_
            | exact True.intro
            | (refine Br.mk (fun _ => ?_) (fun _ => ?_) <;> (try (exfalso; omega)))
            | refine Get.exp rfl ?_
            | refine Idx.lst (by first | omega | assumption | exact hl _ _ | exact inK64 (by omega) (by omega) | (simp; omega) | (simp; done)) ?_
            | refine Idx.lstS (by intro _; rfl) (by first | omega | assumption | exact hl _ _ | exact inK64 (by omega) (by omega) | (simp; omega) | (simp; done)) ?_
            | refine IdxS.nat (by first | omega | assumption | exact hl _ _ | exact inK64 (by omega) (by omega) | (simp; omega) | (simp; done)) ?_
            | refine IdxO.nat (by first | omega | assumption | exact hl _ _ | exact inK64 (by omega) (by omega) | (simp; omega) | (simp; done)) ?_
            | refine QuietV.mk (by kernel_rfl) ?_
            | refine Put.exp rfl ?_
            | refine SrcV.exp rfl ?_
            | refine Chk.mk (by first | rfl | exact inK64 (by omega) (by omega) | omega | assumption) ?_
            | refine Chk.mk ⟨Nat.le_of_ble_eq_true rfl, Nat.le_of_ble_eq_true rfl⟩ ?_
            | refine DrawV.by mixed T0 [0, 1, 0, 0, 8, 31, 63, 127, 255, 511, 255, 255, 2303, 8191, 16383, 32767, 65535, 131071, 262143, 131071, 131071, 1179647, 4194303, 131071, 8519679, 131071, 131071, 67239935, 268435455, 536870911, 1073741823, 2147483647, 4294967295, 8589934591, 17179869183, 34359738367, 8589934591, 77309411327, 214748364799, 549755813887, 1099511627775] (by kernel_rfl) ?_
            | refine DrawV.by mixed T0 [0, 1, 0, 0, 8, 31, 0, 64, 0, 0, 512, 2047, 4095, 8191, 16383, 32767, 16383, 16383, 147455, 524287, 16383, 1064959, 16383, 16383, 8404991, 33554431, 67108863, 134217727, 268435455, 536870911, 1073741823, 536870911, 536870911, 4831838207, 17179869183, 536870911, 34896609279, 536870911, 536870911, 275414777855, 1099511627775, 2199023255551, 4398046511103, 8796093022207, 17592186044415, 35184372088831, 70368744177663] (by kernel_rfl) ?_
            | refine Chk.mk (fun _ => rfl) ?_
            | (refine Cal0.dec (few_c (p := p) (t := t) (text := a)) (fun _ => ?_) (fun _ => ?_) <;> (try contradiction))
            | (refine Cal0.dec (few_c (p := q) (t := t) (text := b)) (fun _ => ?_) (fun _ => ?_) <;> (try contradiction))
            | refine Chk.mk (fun h => absurd (by obtain ⟨rfl, rfl⟩ := ds_inj h; rfl) hx1) ?_
            | refine Cal0.pu hc ?_
            | refine Cal0.pu gc ?_
            | (refine Cal0.dec he (fun _ => ?_) (fun _ => ?_) <;> (try contradiction))
            | refine Cll.pu (alive_c mixed) ?_
            | fail))
          all_goals (conv => whnf)
          exact RetV.same rfl rfl
    · repeat' ((conv => whnf) <;> (first
        | refine SeqV.go mixed T0 ?_
        | exact True.intro
        | (refine Br.mk (fun _ => ?_) (fun _ => ?_) <;> (try (exfalso; omega)))
        | refine Get.exp rfl ?_
        | refine Idx.lst (by first | omega | assumption | exact hl _ _ | exact inK64 (by omega) (by omega) | (simp; omega) | (simp; done)) ?_
        | refine Idx.lstS (by intro _; rfl) (by first | omega | assumption | exact hl _ _ | exact inK64 (by omega) (by omega) | (simp; omega) | (simp; done)) ?_
        | refine IdxS.nat (by first | omega | assumption | exact hl _ _ | exact inK64 (by omega) (by omega) | (simp; omega) | (simp; done)) ?_
        | refine IdxO.nat (by first | omega | assumption | exact hl _ _ | exact inK64 (by omega) (by omega) | (simp; omega) | (simp; done)) ?_
        | refine QuietV.mk (by kernel_rfl) ?_
        | refine Put.exp rfl ?_
        | refine SrcV.exp rfl ?_
        | refine Chk.mk (by first | rfl | exact inK64 (by omega) (by omega) | omega | assumption) ?_
        | refine Chk.mk ⟨Nat.le_of_ble_eq_true rfl, Nat.le_of_ble_eq_true rfl⟩ ?_
        | refine DrawV.by mixed T0 [0, 1, 0, 0, 8, 31, 63, 127, 255, 511, 255, 255, 2303, 8191, 16383, 32767, 65535, 131071, 262143, 131071, 131071, 1179647, 4194303, 131071, 8519679, 131071, 131071, 67239935, 268435455, 536870911, 1073741823, 2147483647, 4294967295, 8589934591, 17179869183, 34359738367, 8589934591, 77309411327, 214748364799, 549755813887, 1099511627775] (by kernel_rfl) ?_
        | refine DrawV.by mixed T0 [0, 1, 0, 0, 8, 31, 0, 64, 0, 0, 512, 2047, 4095, 8191, 16383, 32767, 16383, 16383, 147455, 524287, 16383, 1064959, 16383, 16383, 8404991, 33554431, 67108863, 134217727, 268435455, 536870911, 1073741823, 536870911, 536870911, 4831838207, 17179869183, 536870911, 34896609279, 536870911, 536870911, 275414777855, 1099511627775, 2199023255551, 4398046511103, 8796093022207, 17592186044415, 35184372088831, 70368744177663] (by kernel_rfl) ?_
        | refine Chk.mk (fun _ => rfl) ?_
        | (refine Cal0.dec (few_c (p := p) (t := t) (text := a)) (fun _ => ?_) (fun _ => ?_) <;> (try contradiction))
        | (refine Cal0.dec (few_c (p := q) (t := t) (text := b)) (fun _ => ?_) (fun _ => ?_) <;> (try contradiction))
        | refine Chk.mk (fun h => absurd (by obtain ⟨rfl, rfl⟩ := ds_inj h; exact hf) hg) ?_
        | refine Chk.mk (fun h => absurd (by obtain ⟨rfl, rfl⟩ := ds_inj h.symm; exact hf) hg) ?_
        | refine Cll.pu (alive_c mixed) ?_
        | fail))
      all_goals (conv => whnf)
      exact RetV.same rfl rfl
  · repeat' ((conv => whnf) <;> (first
      | refine SeqV.go mixed T0 ?_
      | exact True.intro
      | (refine Br.mk (fun _ => ?_) (fun _ => ?_) <;> (try (exfalso; omega)))
      | refine Get.exp rfl ?_
      | refine Idx.lst (by first | omega | assumption | exact hl _ _ | exact inK64 (by omega) (by omega) | (simp; omega) | (simp; done)) ?_
      | refine Idx.lstS (by intro _; rfl) (by first | omega | assumption | exact hl _ _ | exact inK64 (by omega) (by omega) | (simp; omega) | (simp; done)) ?_
      | refine IdxS.nat (by first | omega | assumption | exact hl _ _ | exact inK64 (by omega) (by omega) | (simp; omega) | (simp; done)) ?_
      | refine IdxO.nat (by first | omega | assumption | exact hl _ _ | exact inK64 (by omega) (by omega) | (simp; omega) | (simp; done)) ?_
      | refine QuietV.mk (by kernel_rfl) ?_
      | refine Put.exp rfl ?_
      | refine SrcV.exp rfl ?_
      | refine Chk.mk (by first | rfl | exact inK64 (by omega) (by omega) | omega | assumption) ?_
      | refine Chk.mk ⟨Nat.le_of_ble_eq_true rfl, Nat.le_of_ble_eq_true rfl⟩ ?_
      | refine DrawV.by mixed T0 [0, 1, 0, 0, 8, 31, 63, 127, 255, 511, 255, 255, 2303, 8191, 16383, 32767, 65535, 131071, 262143, 131071, 131071, 1179647, 4194303, 131071, 8519679, 131071, 131071, 67239935, 268435455, 536870911, 1073741823, 2147483647, 4294967295, 8589934591, 17179869183, 34359738367, 8589934591, 77309411327, 214748364799, 549755813887, 1099511627775] (by kernel_rfl) ?_
      | refine DrawV.by mixed T0 [0, 1, 0, 0, 8, 31, 0, 64, 0, 0, 512, 2047, 4095, 8191, 16383, 32767, 16383, 16383, 147455, 524287, 16383, 1064959, 16383, 16383, 8404991, 33554431, 67108863, 134217727, 268435455, 536870911, 1073741823, 536870911, 536870911, 4831838207, 17179869183, 536870911, 34896609279, 536870911, 536870911, 275414777855, 1099511627775, 2199023255551, 4398046511103, 8796093022207, 17592186044415, 35184372088831, 70368744177663] (by kernel_rfl) ?_
      | refine Chk.mk (fun _ => rfl) ?_
      | (refine Cal0.dec (few_c (p := p) (t := t) (text := a)) (fun _ => ?_) (fun _ => ?_) <;> (try contradiction))
      | (refine Cal0.dec (few_c (p := q) (t := t) (text := b)) (fun _ => ?_) (fun _ => ?_) <;> (try contradiction))
      | refine Cll.pu (alive_c mixed) ?_
      | fail))
    all_goals (conv => whnf)
    exact RetV.same rfl rfl
end Go.Proofs.YtgcjjodbmcnhkaaGreatDoor
