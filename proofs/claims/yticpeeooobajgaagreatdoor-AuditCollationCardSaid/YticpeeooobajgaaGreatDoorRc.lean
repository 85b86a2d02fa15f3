/-
  AuditCollation: for every input the call returns true, and its arguments read as they read before. No condition beyond the row's own (the listed tables of Go's library read as the program's text lays them: the card ties them).
-/
import Derived.Test.YticpeeooobajgaaGreatDoorJR
import Derived.Test.YticpeeooobajgaaGreatDoorXQ
import Derived.Test.YticpeeooobajgaaGreatDoorFc
import Derived.Test.YticpeeooobajgaaGreatDoorCards
import Derived.Test.YticpeeooobajgaaGreatDoorTi
set_option linter.unusedSectionVars false
namespace Go.Proofs.YticpeeooobajgaaGreatDoor
open Go Go.Am Go.ChangeShapes Go.WideShapes Go.ChangeAt Go.RowKit
set_option maxRecDepth 100000
theorem i3 (os:Os) (started:os.Started) (H:Type) (enc:TypeId×Value->H) :
  ReturnsInHanded {} Tryz.checked os 3 .any (λw args=>(Rows.auditCollationSpec.pre enc Tryz.prog Tryz.f3 [] false w args∧laidMetH Tryz.prog o7 w)∧sizedMet enc Tryz.prog Tryz.f3 (OpenSpec.ofChange Rows.auditCollationSpec) false w args)
   (Rows.auditCollationSpec.post enc Tryz.prog Tryz.f3 false true false false):=by
 letI:=gtH
 refine oU (C:=Tryz.checked) (X:=λw _=>laidMetH Tryz.prog o7 w) (λ_ _ _ hh h=>h.of_heap hh) own started (by kernel_rfl) Tryz.func3
  (ChangeSpec.witness_shaped (enc:=enc) (C:=Tryz.checked) (os:=os) (X:=λw _=>laidMetH Tryz.prog o7 w) false (mf os) #[.agg #[.slice none 0 0,.slice none 0 0,.slice none 0 0,.slice none 0 0,.slice none 0 0,.int .i64 0,.int .i64 0,.int .i64 0,.int .i64 0,.int .i64 0,.bool false,.bool false,.slice none 0 0,.slice none 0 0]] 8 (World.laidAll_os _ _ _) (me os _) (by kernel_rfl) (by kernel_rfl) (by kernel_rfl) (qH os _)) ?_
 intro W base args ds gs before hval0 hW hL hsh;have hval:∀ (j:Nat) t v,Tryz.f3.params[j]?=some t->args[j]?=some v->Value.okWide Tryz.prog W .any base t v:=hval0;have hW':=hW;obtain⟨p,q,hA0,hV,rfl,hfz,hnd⟩:=hW;have hA:DataW.TrodAll enc Tryz.prog W 0 (λ_=>true) true Tryz.f3.params.toList args.toList ds p:=hA0;rw[Tryz.params3] at hA hval;obtain⟨v0,d0,rfl,rfl,h0⟩:=trodAll_one hA;obtain⟨rfl,rfl⟩:=trodVars_none hV;obtain⟨a0,ok0,V0⟩:=wC Tryz.underlying37 r_pair (hval 0 _ v0 rfl rfl) h0;have hlt:∀ x∈(p)++[],x.block<W.heap.size:=hW'.lt;refine(uX (Ct ok0.1 ok0.2.1 ok0.2.2.1 ok0.2.2.2) (inv_of hL hsh) (VS.cons V0 VS.nil)).mono λe W' ⟨he,hb⟩=>?_
 subst he;have st:∀ {t:TypeId} {v:Value} {d:DataW H} {ps:List MemPlace} (hr:Tryz.prog.readableRec t=true) (hrow:t<Tryz.prog.types.size),DataW.Trod enc Tryz.prog W 0 (λ_=>true) true t v d ps->(∀ x∈ps,x.block<W.heap.size)->DataW.Trod enc Tryz.prog W' 0 (λb=>decide (b<W.heap.size)) true t v d ps:=λhr hrow h hx=>hb.trod Cb hr hrow h hx
 refine⟨_,rfl,_,_,_,[],p,[],hW',trodAll_mk1 (shut_bool Tryz.underlying4 true),?_,rfl,wB hb _,λh=>by cases h⟩;show DataW.TrodAll enc Tryz.prog W' 0 (λb=>decide (b<W.heap.size)) true Tryz.f3.params.toList [v0] [d0] (p);rw[Tryz.params3];exact⟨p,[],st (by kernel_rfl) (of_decide_eq_true (by kernel_rfl)) h0 (λx hx=>hlt x (by simp[hx])),rfl,by simp⟩
theorem j6:Rows.AuditCollationSaid:=
 OpenClaim.holds_of_wide 3 Tryz.f3 rfl rfl rfl rfl rfl rfl rfl ⟨rfl,rfl,rfl,rfl,rfl⟩ rfl rfl rfl rfl rfl (by kernel_rfl) Tryz.func3 i4
  (of_decide_eq_true (by kernel_rfl)) (by unfold Func.isWrapper;first|(rw[if_pos (by decide +kernel)];kernel_rfl)|(rw[if_neg (by decide +kernel)];exact⟨rfl,rfl⟩))
  (λos started H enc _=>i3 os started H enc)
theorem auditCollation_holds:Rows.AuditCollationCardSaid:=
 Claim7.holds_tied_plain_at .later [] [.data,.data,.data,.data] true (true, "187936046f2551db710ecca34f359294e0bd806d5f0ceedfe01eba316071765b") true
  j6 (λ_ h=>by cases h) (by kernel_rfl) (λ_ h=>by cases h) ia rfl ⟨rfl,rfl⟩ CY rfl
  (λf fn hf hfn=>by
   obtain rfl:f=3:=Option.some.inj ((show Tryz.prog.funcNamed "unicodetext/unicodetextlaw57.AuditCollation" = some 3 by kernel_rfl).symm.trans hf) |>.symm
   obtain rfl:fn=Tryz.f3:=(Option.some.inj (Tryz.func3.symm.trans hfn)).symm
   exact⟨Af,λj t ht=>by
    rw[Tryz.params3] at ht;have hm:t∈[37]:=by simpa using Array.mem_of_getElem? ht
    have hall:([37].all λu=>!Tryz.prog.wantsStandIn u)=true:=by kernel_rfl
    exact(show Tryz.prog.wantsStandIn t=false by simpa using List.all_eq_true.1 hall t hm)⟩)
  j7
end Go.Proofs.YticpeeooobajgaaGreatDoor
