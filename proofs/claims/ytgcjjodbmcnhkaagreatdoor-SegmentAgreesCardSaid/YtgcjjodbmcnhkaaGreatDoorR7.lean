/-
  SegmentAgrees: for every two properties with texts, and every table, the call returns true, and its arguments read as they read before. No condition beyond the row's own (the listed tables of Go's library read as the program's text lays them: the card ties them).
-/
import Derived.Test.YtgcjjodbmcnhkaaGreatDoorL7
import Derived.Test.YtgcjjodbmcnhkaaGreatDoorR0
import Derived.Test.YtgcjjodbmcnhkaaGreatDoorCards
import Derived.Test.YtgcjjodbmcnhkaaGreatDoorTie
namespace Go.Proofs.YtgcjjodbmcnhkaaGreatDoor
open Go Go.Am Go.ChangeShapes Go.WideShapes Go.ChangeAt Go.RowKit
set_option maxRecDepth 100000

theorem r_two : Reads Tryz.prog 59 (fun x : Prp × Prp × List Int × List Int => [Am.strs x.1.names, spns x.1.spans, Am.strs x.2.1.names, spns x.2.1.spans, ints x.2.2.1, ints x.2.2.2]) (fun x => x.1.ok ∧ x.2.1.ok) :=
  (Reads.struct (tot := 6) (Tryz.underlying59) (by kernel_rfl) (ReadsF.cons (off := 0) (sz := 2) r_prp rfl (by kernel_rfl) (ReadsF.cons (sz := 2) r_prp rfl (by kernel_rfl) (ReadsF.cons (sz := 1) r_ints rfl (by kernel_rfl) (ReadsF.cons (sz := 1) r_ints rfl (by kernel_rfl) ReadsF.nil))))).map (fun x => (x.1, x.2.1, x.2.2.1, x.2.2.2.1)) (fun _ => rfl) (fun _ h => ⟨h.1, h.2.1⟩)

theorem agrees_lifted (os : Os) (started : os.Started) (H : Type) (enc : TypeId × Value → H) :
    ReturnsInHanded {} Tryz.checked os 10 .any (fun w args => (Rows.segmentAgreesSpec.pre enc Tryz.prog Tryz.f10 [] false w args ∧ laidMetH Tryz.prog laidL w) ∧ sizedMet enc Tryz.prog Tryz.f10 (OpenSpec.ofChange Rows.segmentAgreesSpec) false w args)
      (Rows.segmentAgreesSpec.post enc Tryz.prog Tryz.f10 false true false false) := by
  refine returnsInHanded_of_change_and (C := Tryz.checked) (X := fun w _ => laidMetH Tryz.prog laidL w) (fun _ _ _ hh h => h.of_heap hh) own started (by kernel_rfl) Tryz.func10
    (ChangeSpec.witness_shaped (enc := enc) (C := Tryz.checked) (os := os) (X := fun w _ => laidMetH Tryz.prog laidL w) false (laidWorld os) #[.agg #[.slice none 0 0, .slice none 0 0, .slice none 0 0, .slice none 0 0, .slice none 0 0, .slice none 0 0], .agg #[.slice none 0 0, .slice none 0 0, .slice none 0 0, .slice none 0 0, .slice none 0 0, .slice none 0 0]] 8 rfl (laidWorld_shaped os _) (by kernel_rfl) (by kernel_rfl) (by kernel_rfl) (laidWorld_met os _)) ?_
  intro W base args ds gs before hval0 hW _ _ hL _
  have hval : ∀ (j : Nat) t v, Tryz.f10.params[j]? = some t → args[j]? = some v → Value.okWide Tryz.prog W .any base t v := hval0
  have hW' := hW
  obtain ⟨p, q, hA0, hV, rfl, hfz, hnd⟩ := hW
  have hA : DataW.TrodAll enc Tryz.prog W 0 (fun _ => true) true Tryz.f10.params.toList args.toList ds p := hA0
  rw [Tryz.params10] at hA hval
  obtain ⟨v0, v1, d0, d1, p0, p1, rfl, rfl, rfl, h0, h1⟩ := trodAll_two hA
  obtain ⟨rfl, rfl⟩ := trodVars_none hV
  obtain ⟨⟨pp, qq, aa, bb⟩, okp, V0⟩ := arg_struct Tryz.underlying59 r_two (hval 0 _ v0 rfl rfl) h0
  obtain ⟨tb, okt, V1⟩ := arg_struct Tryz.underlying31 r_tab (hval 1 _ v1 rfl rfl) h1
  have hlt : ∀ x ∈ (p0 ++ p1) ++ [], x.block < W.heap.size := hW'.lt
  refine (calls_of_pu (lawAgrees_c okp.1 okp.2 okt) (VS.cons V0 (VS.cons V1 VS.nil))).mono fun e W' ⟨he, hb⟩ => ?_
  subst he
  have st : ∀ {t : TypeId} {v : Value} {d : DataW H} {ps : List MemPlace} (hr : Tryz.prog.readableRec t = true) (hrow : t < Tryz.prog.types.size), DataW.Trod enc Tryz.prog W 0 (fun _ => true) true t v d ps → (∀ x ∈ ps, x.block < W.heap.size) → DataW.Trod enc Tryz.prog W' 0 (fun b => decide (b < W.heap.size)) true t v d ps := fun hr hrow h hx => hb.trod laidOut hr hrow h hx
  refine ⟨_, rfl, _, _, _, [], p0 ++ p1, [], hW', trodAll_mk1 (shut_bool Tryz.underlying4 true), ?_, rfl, below_kept hb _, fun h => by cases h⟩
  show DataW.TrodAll enc Tryz.prog W' 0 (fun b => decide (b < W.heap.size)) true Tryz.f10.params.toList [v0, v1] [d0, d1] (p0 ++ p1)
  rw [Tryz.params10]
  exact ⟨p0, p1, st (by kernel_rfl) (of_decide_eq_true (by kernel_rfl)) h0 (fun x hx => hlt x (by simp [hx])), ⟨p1, [], st (by kernel_rfl) (of_decide_eq_true (by kernel_rfl)) h1 (fun x hx => hlt x (by simp [hx])), rfl, by simp⟩, rfl⟩

theorem segmentAgrees_said : Rows.SegmentAgreesSaid :=
  OpenClaim.holds_of_wide 10 Tryz.f10 rfl rfl rfl rfl rfl rfl rfl ⟨rfl, rfl, rfl, rfl, rfl⟩ rfl rfl rfl rfl rfl (by kernel_rfl) Tryz.func10 (by kernel_rfl)
    (of_decide_eq_true (by kernel_rfl)) (by unfold Func.isWrapper; first | (rw [if_pos (by decide +kernel)]; kernel_rfl) | (rw [if_neg (by decide +kernel)]; exact ⟨rfl, rfl⟩))
    (fun os started H enc _ => agrees_lifted os started H enc)

theorem segmentAgrees_holds : Rows.SegmentAgreesCardSaid :=
  Claim7.holds_tied_plain_at .later [] [.data, .data, .data, .data, .pinned] true (true, "bfa372fe5e4d65e80ffbe2fefb89940f1bf08592f13578955f629bb33f30fcee") true
    segmentAgrees_said (fun _ h => by cases h) (by kernel_rfl) (fun _ h => by cases h) segmentAgrees_row_tie rfl ⟨rfl, rfl⟩ (by kernel_rfl) rfl
    (fun f fn hf hfn => by
      obtain rfl : f = 10 := Option.some.inj ((show Tryz.prog.funcNamed "unicodetext/unicodetextlaw30.SegmentAgrees" = some 10 by kernel_rfl).symm.trans hf) |>.symm
      obtain rfl : fn = Tryz.f10 := (Option.some.inj (Tryz.func10.symm.trans hfn)).symm
      exact ⟨by kernel_rfl, fun j t ht => by
        rw [Tryz.params10] at ht
        have hm : t ∈ [59, 31] := by simpa using Array.mem_of_getElem? ht
        have hall : ([59, 31].all fun u => !Tryz.prog.wantsStandIn u) = true := by kernel_rfl
        exact (show Tryz.prog.wantsStandIn t = false by simpa using List.all_eq_true.1 hall t hm)⟩)
    (by kernel_rfl)
end Go.Proofs.YtgcjjodbmcnhkaaGreatDoor
