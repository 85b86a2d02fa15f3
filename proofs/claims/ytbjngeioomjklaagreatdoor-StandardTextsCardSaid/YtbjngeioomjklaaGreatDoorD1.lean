/-
  Rules parsed by a closed run, and checked behind it.
-/
import Derived.Test.YtbjngeioomjklaaGreatDoorD0
import Derived.Test.YtbjngeioomjklaaGreatDoorAmF
namespace Go.Proofs.YtbjngeioomjklaaGreatDoor
open Go Go.Am
set_option maxRecDepth 100000
set_option linter.unusedSectionVars false
abbrev nil6 : Box := .cells [nilS, nilS, nilS, nilS, nilS, nilS] true
def isB (o : Option Box) (b : Box) : Bool := match o with | some x => eqB x b | none => false
structure Parses (kind : Int) (k : Nat) (cl : List Str) (rs : List Rul) : Prop where
  ex : ∃ (dc dr : D) (bs L2 : List (Nat × Box)) (N2 : Nat) (H3 : Heap), @AC1 gtR Tryz.prog 16 [i64 kind] ⟨k, []⟩ (.agg [dc, dr]) ⟨199999, bs⟩ ∧ getL bs 0 = none ∧
    @AC1 gtR Tryz.prog 40 [.agg [dc, dr]] ⟨200005, (200001, nil6) :: (200000, .cells [dc, dr] true) :: bs⟩ (i64 0) ⟨N2, L2⟩ ∧ getL L2 200001 = some nil6 ∧ getL L2 200000 = some (.cells [dc, dr] true) ∧
    (∀ id b, H3.get id = some b → getL L2 id = some b ∧ (id != 200001) = true) ∧ Rd H3 (fun _ => true) (fun _ => none) dc (strs cl) ∧ Rd H3 (fun _ => true) (fun _ => none) dr (lstS rulC rs) ∧
    Rd ⟨199999, bs⟩ (fun _ => true) (fun _ => none) dc (strs cl) ∧ Rd ⟨199999, bs⟩ (fun _ => true) (fun _ => none) dr (lstS rulC rs)
noncomputable def look (sp : FuncId → List D → Option D) (f : Nat) (dcl drs : D) (d1 : D) (h1 : HT) (nx1 : Nat) : Bool :=
  match d1 with
  | .agg [dc, dr] => Nat.ble nx1 199999 && (match h1.get 0 with | none => true | some _ => false) && (retB h1 100000 dc dcl && retB h1 100000 dr drs) &&
    @xcallF gtR Tryz.prog (tiOf Tryz.prog) sp f (.fn 40) [.agg [dc, dr]] ((h1.put 200000 (.cells [dc, dr] true)).put 200001 nil6) 200005 (fun d2 h2 _ =>
      eqD d2 (i64 0) && isB (h2.get 200001) nil6 && isB (h2.get 200000) (.cells [dc, dr] true) && retB (h2.del 200001) 100000 dc dcl && retB (h2.del 200001) 100000 dr drs)
  | _ => false
theorem isB_eq {o : Option Box} {b : Box} (h : isB o b = true) : o = some b := by
  unfold isB at h
  split at h
  · rw [@eqB_eq gtR _ _ h]
  · cases h
theorem Parses.of_x {sp : FuncId → List D → Option D} (S : @SpOk gtR Tryz.prog sp) {kind : Int} {k f f2 : Nat} {cl : List Str} {rs : List Rul} (h : @xcallF gtR Tryz.prog (tiOf Tryz.prog) sp f (.fn 16) [i64 kind] .emp k (look sp f2 (strs cl) (lstS rulC rs)) = true) : Parses kind k cl rs := by
  letI := gtR
  obtain ⟨d1, h1, nx1, k1, k2⟩ := xcallF_ok mixed T0 S f _ _ _ _ _ h
  unfold look at k2
  split at k2
  · rename_i dc dr
    simp only [Bool.and_eq_true, Nat.ble_eq] at k2
    obtain ⟨⟨⟨hn, h0⟩, hq⟩, hc⟩ := k2
    obtain ⟨d2, h2, nx2, c1, c2⟩ := xcallF_ok mixed T0 S f2 _ _ _ _ _ hc
    simp only [Bool.and_eq_true] at c2
    obtain ⟨⟨⟨⟨e1, e2⟩, e3⟩, e4⟩, e5⟩ := c2
    rw [eqD_eq _ _ e1] at c1
    have g1 := isB_eq e2
    have g2 := isB_eq e3
    have hg0 : h1.get 0 = none := by
      cases hx : h1.get 0 with
      | none => rfl
      | some b => rw [hx] at h0; cases h0
    have hgl : ∀ (t : HT) (n i : Nat), getL (t.heap n).bs i = t.get i := fun t n i => HT.heap_get
    refine ⟨dc, dr, (h1.heap nx1).bs, (h2.heap nx2).bs, nx2, (h2.del 200001).heap 0, AC1.less k1 ⟨hn, fun id box hg => hg⟩, by rw [hgl]; exact hg0, ?_, by rw [hgl]; exact g1, by rw [hgl]; exact g2, fun id b hg => ?_, retB_rd _ _ _ e4, retB_rd _ _ _ e5, retB_rd (m := 199999) _ _ _ hq.1, retB_rd (m := 199999) _ _ _ hq.2⟩
    · refine AC1.congr (h := ((h1.put 200000 (.cells [dc, dr] true)).put 200001 nil6).heap 200005) ⟨rfl, fun i => ?_⟩ ⟨rfl, fun i => rfl⟩ c1
      rw [HT.heap_get, HT.get_put, HT.get_put]
      simp only [Heap.get, getL]
      rw [hgl]
    · rw [HT.heap_get, HT.get_del] at hg
      split at hg
      · cases hg
      · rename_i hne
        exact ⟨by rw [hgl]; exact hg, by simpa using fun e => hne e.symm⟩
  · cases k2
noncomputable def lookT (sp : FuncId → List D → Option D) (f : Nat) (dcl drs : D) (d1 : D) (h1 : HT) (nx1 : Nat) : Bool :=
  match d1 with
  | .agg [dc, dr] => Nat.ble nx1 199999 && (match h1.get 0 with | none => true | some _ => false) && (retB h1 100000 dc dcl && retB h1 100000 dr drs) &&
    callT gtR Tryz.prog (tiOf Tryz.prog) sp f (.fn 40) [.agg [dc, dr]] ((h1.put 200000 (.cells [dc, dr] true)).put 200001 nil6) 200005 (fun d2 h2 _ =>
      eqD d2 (i64 0) && isB (h2.get 200001) nil6 && isB (h2.get 200000) (.cells [dc, dr] true) && retB (h2.del 200001) 100000 dc dcl && retB (h2.del 200001) 100000 dr drs)
  | _ => false
theorem Parses.pu {kind : Int} {k : Nat} {cl : List Str} {rs : List Rul} (hp : Parses kind k cl rs) : @Pu gtR Tryz.prog 16 [i64 kind] (.agg [strs cl, lstS rulC rs]) := by
  letI := gtR
  obtain ⟨dc, dr, bs, L2, N2, H3, h1, h2, h3, h4, h5, h6, h7, h8, h9, h10⟩ := hp.ex
  exact Pu.of_ac rfl (h1.low (Nat.zero_le _)) (.agg (.cons h9 (.cons h10 .nil)))
theorem Parses.of_t {sp : FuncId → List D → Option D} (S : @SpOk gtR Tryz.prog sp) {kind : Int} {k f f2 : Nat} {cl : List Str} {rs : List Rul} (h : callT gtR Tryz.prog (tiOf Tryz.prog) sp f (.fn 16) [i64 kind] .emp k (lookT sp f2 (strs cl) (lstS rulC rs)) = true) : Parses kind k cl rs := by
  have e : lookT sp f2 (strs cl) (lstS rulC rs) = look sp f2 (strs cl) (lstS rulC rs) := by
    funext d1 h1 nx1
    unfold lookT look
    rw [callT_eq]
  rw [callT_eq, e] at h
  exact Parses.of_x S h
end Go.Proofs.YtbjngeioomjklaaGreatDoor
