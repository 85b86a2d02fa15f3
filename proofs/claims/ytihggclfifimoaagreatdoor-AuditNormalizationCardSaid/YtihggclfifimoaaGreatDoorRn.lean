/-
  AuditNormalization: for every input the call returns true, and its arguments read as they read before. No condition beyond the row's own (the listed tables of Go's library read as the program's text lays them: the card ties them).
-/
import Derived.Test.YtihggclfifimoaaGreatDoorJN
import Derived.Test.YtihggclfifimoaaGreatDoorFn
import Derived.Test.YtihggclfifimoaaGreatDoorTi
set_option linter.unusedSectionVars false
namespace Go.Proofs.YtihggclfifimoaaGreatDoor
open Go Go.Am Go.ChangeShapes Go.WideShapes Go.ChangeAt Go.RowKit
set_option maxRecDepth 100000
theorem gw (os:Os) (started:os.Started) (H:Type) (enc:TypeId×Value->H) :
  ReturnsInHanded {} Tryz.checked os 3 .any (λw args=>(Rows.auditNormalizationSpec.pre enc Tryz.prog Tryz.f3 [] false w args∧laidMetH Tryz.prog q0 w)∧sizedMet enc Tryz.prog Tryz.f3 (OpenSpec.ofChange Rows.auditNormalizationSpec) false w args)
   (Rows.auditNormalizationSpec.post enc Tryz.prog Tryz.f3 false true false false):=by
 letI:=gtH
 refine qT (C:=Tryz.checked) (X:=λw _=>laidMetH Tryz.prog q0 w) (λ_ _ _ hh h=>h.of_heap hh) own started (by kernel_rfl) Tryz.func3
  (ChangeSpec.witness_shaped (enc:=enc) (C:=Tryz.checked) (os:=os) (X:=λw _=>laidMetH Tryz.prog q0 w) false (oG os) #[.agg #[.slice none 0 0,.slice none 0 0,.slice none 0 0],.slice none 0 0] 8 (World.laidAll_os _ _ _) (oF os _) (by kernel_rfl) (by kernel_rfl) (by kernel_rfl) (r8 os _)) ?_
 intro W base args ds gs before hval0 hW hL hsh;have hval:∀ (j:Nat) t v,Tryz.f3.params[j]?=some t->args[j]?=some v->Value.okWide Tryz.prog W .any base t v:=hval0;have hW':=hW;obtain⟨p,q,hA0,hV,rfl,hfz,hnd⟩:=hW;have hA:DataW.TrodAll enc Tryz.prog W 0 (λ_=>true) true Tryz.f3.params.toList args.toList ds p:=hA0;rw[Tryz.params3] at hA hval;obtain⟨v0,v1,d0,d1,p0,p1,rfl,rfl,rfl,h0,h1⟩:=trodAll_two hA;obtain⟨rfl,rfl⟩:=trodVars_none hV;obtain⟨a0,ok0,V0⟩:=zM Tryz.underlying28 r_norm (hval 0 _ v0 rfl rfl) h0;obtain⟨a1,okx1,V1⟩:=CQ Tryz.underlying29 DD (hval 1 _ v1 rfl rfl) h1;have hlt:∀ x∈(p0++p1)++[],x.block<W.heap.size:=hW'.lt;refine(xf (Fr ok0 okx1) (inv_of hL hsh) (VS.cons V0 (VS.cons V1 VS.nil))).mono λe W' ⟨he,hb⟩=>?_
 subst he;have st:∀ {t:TypeId} {v:Value} {d:DataW H} {ps:List MemPlace} (hr:Tryz.prog.readableRec t=true) (hrow:t<Tryz.prog.types.size),DataW.Trod enc Tryz.prog W 0 (λ_=>true) true t v d ps->(∀ x∈ps,x.block<W.heap.size)->DataW.Trod enc Tryz.prog W' 0 (λb=>decide (b<W.heap.size)) true t v d ps:=λhr hrow h hx=>hb.trod F3 hr hrow h hx
 refine⟨_,rfl,_,_,_,[],p0++p1,[],hW',trodAll_mk1 (shut_bool Tryz.underlying4 true),?_,rfl,zL hb _,λh=>by cases h⟩;show DataW.TrodAll enc Tryz.prog W' 0 (λb=>decide (b<W.heap.size)) true Tryz.f3.params.toList [v0,v1] [d0,d1] (p0++p1);rw[Tryz.params3];exact⟨p0,p1,st (by kernel_rfl) (of_decide_eq_true (by kernel_rfl)) h0 (λx hx=>hlt x (by simp[hx])),⟨p1,[],st (by kernel_rfl) (of_decide_eq_true (by kernel_rfl)) h1 (λx hx=>hlt x (by simp[hx])),rfl,by simp⟩,rfl⟩
theorem i3:Rows.AuditNormalizationSaid:=
 OpenClaim.holds_of_wide 3 Tryz.f3 rfl rfl rfl rfl rfl rfl rfl ⟨rfl,rfl,rfl,rfl,rfl⟩ rfl rfl rfl rfl rfl (by kernel_rfl) Tryz.func3 g8
  (of_decide_eq_true (by kernel_rfl)) (by unfold Func.isWrapper;first|(rw[if_pos (by decide +kernel)];kernel_rfl)|(rw[if_neg (by decide +kernel)];exact⟨rfl,rfl⟩))
  (λos started H enc _=>gw os started H enc)
theorem auditNormalization_holds:Rows.AuditNormalizationCardSaid:=
 Claim7.holds_tied_plain_at .later [] [.data,.data,.data,.data] true (true, "61aef6b6b8cade42713462a28f773ff956a75cc83ed79f17c41f43393044ee06") true
  i3 (λ_ h=>by cases h) (by kernel_rfl) (λ_ h=>by cases h) gl rfl ⟨rfl,rfl⟩ F0 rfl
  (λf fn hf hfn=>by
   obtain rfl:f=3:=Option.some.inj ((show Tryz.prog.funcNamed "unicodetext/unicodetextlaw57.AuditNormalization" = some 3 by kernel_rfl).symm.trans hf) |>.symm
   obtain rfl:fn=Tryz.f3:=(Option.some.inj (Tryz.func3.symm.trans hfn)).symm
   exact⟨Dy,λj t ht=>by
    rw[Tryz.params3] at ht;have hm:t∈[28,29]:=by simpa using Array.mem_of_getElem? ht
    have hall:([28,29].all λu=>!Tryz.prog.wantsStandIn u)=true:=by kernel_rfl
    exact(show Tryz.prog.wantsStandIn t=false by simpa using List.all_eq_true.1 hall t hm)⟩)
  i4
end Go.Proofs.YtihggclfifimoaaGreatDoor
