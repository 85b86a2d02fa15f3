/-
  StandardDecides: for every input the call returns true, and its arguments read as they read before. No condition beyond the row's own (the listed tables of Go's library read as the program's text lays them: the card ties them).
-/
import Derived.Test.YtbjngeioomjklaaGreatDoorR0
import Derived.Test.YtbjngeioomjklaaGreatDoorZ0
import Derived.Test.YtbjngeioomjklaaGreatDoorCards
import Derived.Test.YtbjngeioomjklaaGreatDoorTie
namespace Go.Proofs.YtbjngeioomjklaaGreatDoor
open Go Go.Am Go.ChangeShapes Go.WideShapes Go.ChangeAt Go.RowKit
set_option maxRecDepth 100000
theorem standardDecides_lifted (os:Os) (started:os.Started) (H:Type) (enc:TypeId×Value→H) :
  ReturnsInHanded {} Tryz.checked os 5 .any (fun w args=>(Rows.standardDecidesSpec.pre enc Tryz.prog Tryz.f5 [] false w args∧laidMetH Tryz.prog laidL w)∧sizedMet enc Tryz.prog Tryz.f5 (OpenSpec.ofChange Rows.standardDecidesSpec) false w args)
   (Rows.standardDecidesSpec.post enc Tryz.prog Tryz.f5 false true false false):=by
 letI:=gtR
 refine returns_shaped (C:=Tryz.checked) (X:=fun w _=>laidMetH Tryz.prog laidL w) (fun _ _ _ hh h=>h.of_heap hh) own started (by kernel_rfl) Tryz.func5
  (ChangeSpec.witness_shaped (enc:=enc) (C:=Tryz.checked) (os:=os) (X:=fun w _=>laidMetH Tryz.prog laidL w) false (laidWorld os) #[.int .i64 0,.slice none 0 0] 8 (World.laidAll_os _ _ _) (laidWorld_shaped os _) (by kernel_rfl) (by kernel_rfl) (by kernel_rfl) (laidWorld_met os _)) ?_
 intro W base args ds gs before hval0 hW hL hsh
 have hval:∀ (j:Nat) t v,Tryz.f5.params[j]?=some t→args[j]?=some v→Value.okWide Tryz.prog W .any base t v:=hval0
 have hW':=hW
 obtain ⟨p,q,hA0,hV,rfl,hfz,hnd⟩:=hW
 have hA:DataW.TrodAll enc Tryz.prog W 0 (fun _=>true) true Tryz.f5.params.toList args.toList ds p:=hA0
 rw [Tryz.params5] at hA hval
 obtain ⟨v0,v1,d0,d1,p0,p1,rfl,rfl,rfl,h0,h1⟩:=trodAll_two hA
 obtain ⟨rfl,rfl⟩:=trodVars_none hV
 obtain ⟨a0,_,V0⟩:=arg_i64 Tryz.underlying3 (hval 0 _ v0 rfl rfl) h0
 obtain ⟨a1,okx1,V1⟩:=arg_slice Tryz.underlying33 r_ints (hval 1 _ v1 rfl rfl) h1
 have hlt:∀ x ∈ (p0 ++ p1) ++ [],x.block < W.heap.size:=hW'.lt
 refine (calls_of_pu (decides_c) (inv_of hL hsh) (VS.cons V0 (VS.cons V1 VS.nil))).mono fun e W' ⟨he,hb⟩=>?_
 subst he
 have st:∀ {t:TypeId} {v:Value} {d:DataW H} {ps:List MemPlace} (hr:Tryz.prog.readableRec t=true) (hrow:t < Tryz.prog.types.size),DataW.Trod enc Tryz.prog W 0 (fun _=>true) true t v d ps→(∀ x ∈ ps,x.block < W.heap.size)→DataW.Trod enc Tryz.prog W' 0 (fun b=>decide (b < W.heap.size)) true t v d ps:=fun hr hrow h hx=>hb.trod laidOut hr hrow h hx
 refine ⟨_,rfl,_,_,_,[],p0 ++ p1,[],hW',trodAll_mk1 (shut_bool Tryz.underlying4 true),?_,rfl,below_kept hb _,fun h=>by cases h⟩
 show DataW.TrodAll enc Tryz.prog W' 0 (fun b=>decide (b < W.heap.size)) true Tryz.f5.params.toList [v0,v1] [d0,d1] (p0 ++ p1)
 rw [Tryz.params5]
 exact ⟨p0,p1,st (by kernel_rfl) (of_decide_eq_true (by kernel_rfl)) h0 (fun x hx=>hlt x (by simp [hx])),⟨p1,[],st (by kernel_rfl) (of_decide_eq_true (by kernel_rfl)) h1 (fun x hx=>hlt x (by simp [hx])),rfl,by simp⟩,rfl⟩
theorem standardDecides_said:Rows.StandardDecidesSaid:=
 OpenClaim.holds_of_wide 5 Tryz.f5 rfl rfl rfl rfl rfl rfl rfl ⟨rfl,rfl,rfl,rfl,rfl⟩ rfl rfl rfl rfl rfl (by kernel_rfl) Tryz.func5 (by kernel_rfl)
  (of_decide_eq_true (by kernel_rfl)) (by unfold Func.isWrapper;first|(rw [if_pos (by decide +kernel)];kernel_rfl)|(rw [if_neg (by decide +kernel)];exact ⟨rfl,rfl⟩))
  (fun os started H enc _=>standardDecides_lifted os started H enc)
theorem standardDecides_holds:Rows.StandardDecidesCardSaid:=
 Claim7.holds_tied_plain_at .later [] [.data,.data,.data,.data,.listed,.data,.pinned] true (true, "58e64d485bb530623beb8c085b64f664af50d7c53b402290db64d211fbea4dc8") true
  standardDecides_said (fun _ h=>by cases h) (by kernel_rfl) (fun _ h=>by cases h) standardDecides_row_tie rfl ⟨rfl,rfl⟩ (by kernel_rfl) rfl
  (fun f fn hf hfn=>by
   obtain rfl:f=5:=Option.some.inj ((show Tryz.prog.funcNamed "unicodetext/unicodetextlaw32.StandardDecides" = some 5 by kernel_rfl).symm.trans hf) |>.symm
   obtain rfl:fn=Tryz.f5:=(Option.some.inj (Tryz.func5.symm.trans hfn)).symm
   exact ⟨by kernel_rfl,fun j t ht=>by
    rw [Tryz.params5] at ht
    have hm:t ∈ [3,33]:=by simpa using Array.mem_of_getElem? ht
    have hall:([3,33].all fun u=>!Tryz.prog.wantsStandIn u)=true:=by kernel_rfl
    exact (show Tryz.prog.wantsStandIn t=false by simpa using List.all_eq_true.1 hall t hm)⟩)
  (by kernel_rfl)
end Go.Proofs.YtbjngeioomjklaaGreatDoor
