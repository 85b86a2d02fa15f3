/-
  ClustersTruncates: for every input the call returns true, and its arguments read as they read before. No condition beyond the row's own (the listed tables of Go's library read as the program's text lays them: the card ties them).
-/
import Derived.Test.YtjpgpihbhicinaaGreatDoorJR
import Derived.Test.YtjpgpihbhicinaaGreatDoorLC
import Derived.Test.YtjpgpihbhicinaaGreatDoorFu
import Derived.Test.YtjpgpihbhicinaaGreatDoorCards
import Derived.Test.YtjpgpihbhicinaaGreatDoorTi
set_option linter.unusedSectionVars false
namespace Go.Proofs.YtjpgpihbhicinaaGreatDoor
open Go Go.Am Go.ChangeShapes Go.WideShapes Go.ChangeAt Go.RowKit
set_option maxRecDepth 100000
theorem iL (os:Os) (started:os.Started) (H:Type) (enc:TypeId×Value->H) :
  ReturnsInHanded {} Tryz.checked os 5 .any (fun w args=>(Rows.clustersTruncatesSpec.pre enc Tryz.prog Tryz.f5 [] false w args∧laidMetH Tryz.prog lg w)∧sizedMet enc Tryz.prog Tryz.f5 (OpenSpec.ofChange Rows.clustersTruncatesSpec) false w args)
   (Rows.clustersTruncatesSpec.post enc Tryz.prog Tryz.f5 false true false false):=by
 letI:=gtR
 refine j4 (C:=Tryz.checked) (X:=fun w _=>laidMetH Tryz.prog lg w) (fun _ _ _ hh h=>h.of_heap hh) own started (by kernel_rfl) Tryz.func5
  (ChangeSpec.witness_shaped (enc:=enc) (C:=Tryz.checked) (os:=os) (X:=fun w _=>laidMetH Tryz.prog lg w) false (lD os) #[.agg #[.int .i64 0,.int .i64 0,.slice none 0 0,.slice none 0 0,.slice none 0 0,.slice none 0 0,.slice none 0 0,.slice none 0 0,.slice none 0 0,.slice none 0 0,.slice none 0 0,.slice none 0 0,.slice none 0 0,.slice none 0 0,.slice none 0 0,.slice none 0 0,.slice none 0 0,.slice none 0 0,.slice none 0 0,.slice none 0 0,.slice none 0 0,.slice none 0 0,.slice none 0 0,.slice none 0 0,.slice none 0 0,.slice none 0 0,.slice none 0 0,.slice none 0 0,.slice none 0 0],.slice none 0 0,.int .i64 0] 8 (World.laidAll_os _ _ _) (ik os _) (by kernel_rfl) (by kernel_rfl) (by kernel_rfl) (ld os _)) ?_
 intro W base args ds gs before hval0 hW hL hsh;have hval:∀ (j:Nat) t v,Tryz.f5.params[j]?=some t->args[j]?=some v->Value.okWide Tryz.prog W .any base t v:=hval0;have hW':=hW;obtain⟨p,q,hA0,hV,rfl,hfz,hnd⟩:=hW;have hA:DataW.TrodAll enc Tryz.prog W 0 (fun _=>true) true Tryz.f5.params.toList args.toList ds p:=hA0;rw[Tryz.params5] at hA hval;obtain⟨v0,v1,v2,d0,d1,d2,p0,p1,p2,rfl,rfl,rfl,h0,h1,h2⟩:=trodAll_three hA;obtain⟨rfl,rfl⟩:=trodVars_none hV;obtain⟨a0,ok0,V0⟩:=qt Tryz.underlying39 r_db (hval 0 _ v0 rfl rfl) h0;obtain⟨a1,okx1,V1⟩:=sf Tryz.underlying40 xF (hval 1 _ v1 rfl rfl) h1;obtain⟨a2,okn2,V2⟩:=FC Tryz.underlying3 (hval 2 _ v2 rfl rfl) h2;have hlt:∀ x∈(p0++p1++p2)++[],x.block<W.heap.size:=hW'.lt;refine(od (tru_c ok0 okx1 okn2) (CS hL hsh) (VS.cons V0 (VS.cons V1 (VS.cons V2 VS.nil)))).mono fun e W' ⟨he,hb⟩=>?_
 subst he;have st:∀ {t:TypeId} {v:Value} {d:DataW H} {ps:List MemPlace} (hr:Tryz.prog.readableRec t=true) (hrow:t<Tryz.prog.types.size),DataW.Trod enc Tryz.prog W 0 (fun _=>true) true t v d ps->(∀ x∈ps,x.block<W.heap.size)->DataW.Trod enc Tryz.prog W' 0 (fun b=>decide (b<W.heap.size)) true t v d ps:=fun hr hrow h hx=>hb.trod yv hr hrow h hx
 refine⟨_,rfl,_,_,_,[],p0++p1++p2,[],hW',trodAll_mk1 (shut_bool Tryz.underlying4 true),?_,rfl,qr hb _,fun h=>by cases h⟩;show DataW.TrodAll enc Tryz.prog W' 0 (fun b=>decide (b<W.heap.size)) true Tryz.f5.params.toList [v0,v1,v2] [d0,d1,d2] (p0++p1++p2);rw[Tryz.params5];exact⟨p0,p1++p2,st (by kernel_rfl) (of_decide_eq_true (by kernel_rfl)) h0 (fun x hx=>hlt x (by simp[hx])),⟨p1,p2,st (by kernel_rfl) (of_decide_eq_true (by kernel_rfl)) h1 (fun x hx=>hlt x (by simp[hx])),⟨p2,[],st (by kernel_rfl) (of_decide_eq_true (by kernel_rfl)) h2 (fun x hx=>hlt x (by simp[hx])),rfl,by simp⟩,rfl⟩,by simp⟩
theorem jV:Rows.ClustersTruncatesSaid:=
 OpenClaim.holds_of_wide 5 Tryz.f5 rfl rfl rfl rfl rfl rfl rfl ⟨rfl,rfl,rfl,rfl,rfl⟩ rfl rfl rfl rfl rfl (by kernel_rfl) Tryz.func5 iM
  (of_decide_eq_true (by kernel_rfl)) (by unfold Func.isWrapper;first|(rw[if_pos (by decide +kernel)];kernel_rfl)|(rw[if_neg (by decide +kernel)];exact⟨rfl,rfl⟩))
  (fun os started H enc _=>iL os started H enc)
theorem clustersTruncates_holds:Rows.ClustersTruncatesCardSaid:=
 Claim7.holds_tied_plain_at .later [] [.data,.data,.data,.data,.listed,.data,.pinned] true (true, "af9250357c8cf5cc5e488a8e06ad6ccc52cade8f994168e84e87fa4b0a87fb50") true
  jV (fun _ h=>by cases h) (by kernel_rfl) (fun _ h=>by cases h) gq rfl ⟨rfl,rfl⟩ yr rfl
  (fun f fn hf hfn=>by
   obtain rfl:f=5:=Option.some.inj ((show Tryz.prog.funcNamed "unicodetext/unicodetextlaw33.ClustersTruncates" = some 5 by kernel_rfl).symm.trans hf) |>.symm
   obtain rfl:fn=Tryz.f5:=(Option.some.inj (Tryz.func5.symm.trans hfn)).symm
   exact⟨vY,fun j t ht=>by
    rw[Tryz.params5] at ht;have hm:t∈[39,40,3]:=by simpa using Array.mem_of_getElem? ht
    have hall:([39,40,3].all fun u=>!Tryz.prog.wantsStandIn u)=true:=by kernel_rfl
    exact(show Tryz.prog.wantsStandIn t=false by simpa using List.all_eq_true.1 hall t hm)⟩)
  jW
end Go.Proofs.YtjpgpihbhicinaaGreatDoor
