/-
  LinebreakOpportunities: for every input the call returns true, and its arguments read as they read before. No condition beyond the row's own (the listed tables of Go's library read as the program's text lays them: the card ties them).
-/
import Derived.Test.YtjjbmnacobnfeaaGreatDoorJR
import Derived.Test.YtjjbmnacobnfeaaGreatDoorK5
import Derived.Test.YtjjbmnacobnfeaaGreatDoorFo
import Derived.Test.YtjjbmnacobnfeaaGreatDoorCards
import Derived.Test.YtjjbmnacobnfeaaGreatDoorTi
set_option linter.unusedSectionVars false
namespace Go.Proofs.YtjjbmnacobnfeaaGreatDoor
open Go Go.Am Go.ChangeShapes Go.WideShapes Go.ChangeAt Go.RowKit
set_option maxRecDepth 100000
theorem Fv (os:Os) (started:os.Started) (H:Type) (enc:TypeId×Value→H) :
  ReturnsInHanded {} Tryz.checked os 8 .any (fun w args=>(Rows.linebreakOpportunitiesSpec.pre enc Tryz.prog Tryz.f8 [] false w args∧laidMetH Tryz.prog py w)∧sizedMet enc Tryz.prog Tryz.f8 (OpenSpec.ofChange Rows.linebreakOpportunitiesSpec) false w args)
   (Rows.linebreakOpportunitiesSpec.post enc Tryz.prog Tryz.f8 false true false false):=by
 letI:=gtR
 refine pH (C:=Tryz.checked) (X:=fun w _=>laidMetH Tryz.prog py w) (fun _ _ _ hh h=>h.of_heap hh) own started (by kernel_rfl) Tryz.func8
  (ChangeSpec.witness_shaped (enc:=enc) (C:=Tryz.checked) (os:=os) (X:=fun w _=>laidMetH Tryz.prog py w) false (nI os) #[.agg #[.int .i64 0,.int .i64 0,.slice none 0 0,.slice none 0 0,.slice none 0 0,.slice none 0 0,.slice none 0 0,.slice none 0 0,.slice none 0 0,.slice none 0 0,.slice none 0 0,.slice none 0 0,.slice none 0 0,.slice none 0 0,.slice none 0 0,.slice none 0 0,.slice none 0 0,.slice none 0 0,.slice none 0 0,.slice none 0 0,.slice none 0 0,.slice none 0 0,.slice none 0 0,.slice none 0 0,.slice none 0 0,.slice none 0 0,.slice none 0 0,.slice none 0 0,.slice none 0 0],.slice none 0 0] 8 (World.laidAll_os _ _ _) (nH os _) (by kernel_rfl) (by kernel_rfl) (by kernel_rfl) (qn os _)) ?_
 intro W base args ds gs before hval0 hW hL hsh;have hval:∀ (j:Nat) t v,Tryz.f8.params[j]?=some t→args[j]?=some v→Value.okWide Tryz.prog W .any base t v:=hval0;have hW':=hW;obtain⟨p,q,hA0,hV,rfl,hfz,hnd⟩:=hW;have hA:DataW.TrodAll enc Tryz.prog W 0 (fun _=>true) true Tryz.f8.params.toList args.toList ds p:=hA0;rw[Tryz.params8] at hA hval;obtain⟨v0,v1,d0,d1,p0,p1,rfl,rfl,rfl,h0,h1⟩:=trodAll_two hA;obtain⟨rfl,rfl⟩:=trodVars_none hV;obtain⟨a0,ok0,V0⟩:=xB Tryz.underlying39 r_db (hval 0 _ v0 rfl rfl) h0;obtain⟨a1,okx1,V1⟩:=zr Tryz.underlying40 Ap (hval 1 _ v1 rfl rfl) h1;have hlt:∀ x∈(p0++p1)++[],x.block<W.heap.size:=hW'.lt;refine(vL (GD ok0 okx1) (inv_of hL hsh) (VS.cons V0 (VS.cons V1 VS.nil))).mono fun e W' ⟨he,hb⟩=>?_
 subst he;have st:∀ {t:TypeId} {v:Value} {d:DataW H} {ps:List MemPlace} (hr:Tryz.prog.readableRec t=true) (hrow:t<Tryz.prog.types.size),DataW.Trod enc Tryz.prog W 0 (fun _=>true) true t v d ps→(∀ x∈ps,x.block<W.heap.size)→DataW.Trod enc Tryz.prog W' 0 (fun b=>decide (b<W.heap.size)) true t v d ps:=fun hr hrow h hx=>hb.trod Dn hr hrow h hx
 refine⟨_,rfl,_,_,_,[],p0++p1,[],hW',trodAll_mk1 (shut_bool Tryz.underlying4 true),?_,rfl,ww hb _,fun h=>by cases h⟩;show DataW.TrodAll enc Tryz.prog W' 0 (fun b=>decide (b<W.heap.size)) true Tryz.f8.params.toList [v0,v1] [d0,d1] (p0++p1);rw[Tryz.params8];exact⟨p0,p1,st (by kernel_rfl) (of_decide_eq_true (by kernel_rfl)) h0 (fun x hx=>hlt x (by simp[hx])),⟨p1,[],st (by kernel_rfl) (of_decide_eq_true (by kernel_rfl)) h1 (fun x hx=>hlt x (by simp[hx])),rfl,by simp⟩,rfl⟩
theorem Fx:Rows.LinebreakOpportunitiesSaid:=
 OpenClaim.holds_of_wide 8 Tryz.f8 rfl rfl rfl rfl rfl rfl rfl ⟨rfl,rfl,rfl,rfl,rfl⟩ rfl rfl rfl rfl rfl (by kernel_rfl) Tryz.func8 Fw
  (of_decide_eq_true (by kernel_rfl)) (by unfold Func.isWrapper;first|(rw[if_pos (by decide +kernel)];kernel_rfl)|(rw[if_neg (by decide +kernel)];exact⟨rfl,rfl⟩))
  (fun os started H enc _=>Fv os started H enc)
theorem linebreakOpportunities_holds:Rows.LinebreakOpportunitiesCardSaid:=
 Claim7.holds_tied_plain_at .later [] [.data,.data,.data,.data,.listed,.data,.pinned] true (true, "c01b043d719c2851b19cf292f4d156c64fb9994bf150d64d58b577a34ca2252e") true
  Fx (fun _ h=>by cases h) (by kernel_rfl) (fun _ h=>by cases h) Fu rfl ⟨rfl,rfl⟩ Dj rfl
  (fun f fn hf hfn=>by
   obtain rfl:f=8:=Option.some.inj ((show Tryz.prog.funcNamed "unicodetext/unicodetextlaw34.LinebreakOpportunities" = some 8 by kernel_rfl).symm.trans hf) |>.symm
   obtain rfl:fn=Tryz.f8:=(Option.some.inj (Tryz.func8.symm.trans hfn)).symm
   exact⟨BK,fun j t ht=>by
    rw[Tryz.params8] at ht;have hm:t∈[39,40]:=by simpa using Array.mem_of_getElem? ht
    have hall:([39,40].all fun u=>!Tryz.prog.wantsStandIn u)=true:=by kernel_rfl
    exact(show Tryz.prog.wantsStandIn t=false by simpa using List.all_eq_true.1 hall t hm)⟩)
  Fy
end Go.Proofs.YtjjbmnacobnfeaaGreatDoor
