/-
  WrapBest: for every input the call returns true, and its arguments read as they read before. No condition beyond the row's own (the listed tables of Go's library read as the program's text lays them: the card ties them).
-/
import Derived.Test.YtlimkdlhldlolaaGreatDoorJR
import Derived.Test.YtlimkdlhldlolaaGreatDoorWM
import Derived.Test.YtlimkdlhldlolaaGreatDoorF8
import Derived.Test.YtlimkdlhldlolaaGreatDoorTi
set_option linter.unusedSectionVars false
namespace Go.Proofs.YtlimkdlhldlolaaGreatDoor
open Go Go.Am Go.ChangeShapes Go.WideShapes Go.ChangeAt Go.RowKit
set_option maxRecDepth 100000
theorem pI (os:Os) (started:os.Started) (H:Type) (enc:TypeId×Value->H) :
  ReturnsInHanded {} Tryz.checked os 3 .any (λw args=>(Rows.wrapBestSpec.pre enc Tryz.prog Tryz.f3 [] false w args/\laidMetH Tryz.prog q9 w)/\sizedMet enc Tryz.prog Tryz.f3 (OpenSpec.ofChange Rows.wrapBestSpec) false w args)
   (Rows.wrapBestSpec.post enc Tryz.prog Tryz.f3 false true false false):=by
 letI:=gtR
 refine qS (C:=Tryz.checked) (X:=λw _=>laidMetH Tryz.prog q9 w) (λ_ _ _ hh h=>h.of_heap hh) own started (by kernel_rfl) Tryz.func3
  (ChangeSpec.witness_shaped (enc:=enc) (C:=Tryz.checked) (os:=os) (X:=λw _=>laidMetH Tryz.prog q9 w) false (oG os) #[.agg #[.int .i64 0,.int .i64 0,.slice none 0 0,.slice none 0 0,.slice none 0 0,.slice none 0 0,.slice none 0 0,.slice none 0 0,.slice none 0 0,.slice none 0 0,.slice none 0 0,.slice none 0 0,.slice none 0 0,.slice none 0 0,.slice none 0 0,.slice none 0 0,.slice none 0 0,.slice none 0 0,.slice none 0 0,.slice none 0 0,.slice none 0 0,.slice none 0 0,.slice none 0 0,.slice none 0 0,.slice none 0 0,.slice none 0 0,.slice none 0 0,.slice none 0 0,.slice none 0 0],.slice none 0 0,.int .i64 0] 8 (World.laidAll_os _ _ _) (oF os _) (by kernel_rfl) (by kernel_rfl) (by kernel_rfl) (sX os _)) ?_
 intro W base args ds gs before hval0 hW hL hsh;have hval:∀ (j:Nat) t v,Tryz.f3.params[j]?=some t->args[j]?=some v->Value.okWide Tryz.prog W .any base t v:=hval0;have hW':=hW;obtain⟨p,q,hA0,hV,rfl,hfz,hnd⟩:=hW;have hA:DataW.TrodAll enc Tryz.prog W 0 (λ_=>true) true Tryz.f3.params.toList args.toList ds p:=hA0;rw[Tryz.params3] at hA hval;obtain⟨v0,v1,v2,d0,d1,d2,p0,p1,p2,rfl,rfl,rfl,h0,h1,h2⟩:=trodAll_three hA;obtain⟨rfl,rfl⟩:=trodVars_none hV;obtain⟨a0,ok0,V0⟩:=AV Tryz.underlying39 r_db (hval 0 _ v0 rfl rfl) h0;obtain⟨a1,okx1,V1⟩:=DZ Tryz.underlying40 Ee (hval 1 _ v1 rfl rfl) h1;obtain⟨a2,okn2,V2⟩:=I2 Tryz.underlying3 (hval 2 _ v2 rfl rfl) h2;have hlt:∀ x∈(p0++p1++p2)++[],x.block<W.heap.size:=hW'.lt;refine(yX (Iz ok0 okx1 okn2) (inv_of hL hsh) (VS.cons V0 (VS.cons V1 (VS.cons V2 VS.nil)))).mono λe W' ⟨he,hb⟩=>?_
 subst he;have st:∀ {t:TypeId} {v:Value} {d:DataW H} {ps:List MemPlace} (hr:Tryz.prog.readableRec t=true) (hrow:t<Tryz.prog.types.size),DataW.Trod enc Tryz.prog W 0 (λ_=>true) true t v d ps->(∀ x∈ps,x.block<W.heap.size)->DataW.Trod enc Tryz.prog W' 0 (λb=>decide (b<W.heap.size)) true t v d ps:=λhr hrow h hx=>hb.trod IE hr hrow h hx
 refine⟨_,rfl,_,_,_,[],p0++p1++p2,[],hW',trodAll_mk1 (shut_bool Tryz.underlying4 true),?_,rfl,AN hb _,λh=>by cases h⟩;show DataW.TrodAll enc Tryz.prog W' 0 (λb=>decide (b<W.heap.size)) true Tryz.f3.params.toList [v0,v1,v2] [d0,d1,d2] (p0++p1++p2);rw[Tryz.params3];exact⟨p0,p1++p2,st (by kernel_rfl) (of_decide_eq_true (by kernel_rfl)) h0 (λx hx=>hlt x (by simp[hx])),⟨p1,p2,st (by kernel_rfl) (of_decide_eq_true (by kernel_rfl)) h1 (λx hx=>hlt x (by simp[hx])),⟨p2,[],st (by kernel_rfl) (of_decide_eq_true (by kernel_rfl)) h2 (λx hx=>hlt x (by simp[hx])),rfl,si⟩,rfl⟩,si⟩
theorem sG:Rows.WrapBestSaid:=
 OpenClaim.holds_of_wide 3 Tryz.f3 rfl rfl rfl rfl rfl rfl rfl ⟨rfl,rfl,rfl,rfl,rfl⟩ rfl rfl rfl rfl rfl (by kernel_rfl) Tryz.func3 pJ
  (of_decide_eq_true (by kernel_rfl)) (by unfold Func.isWrapper;first|(rw[if_pos (by decide +kernel)];kernel_rfl)|(rw[if_neg (by decide +kernel)];exact⟨rfl,rfl⟩))
  (λos started H enc _=>pI os started H enc)
theorem wrapBest_holds:Rows.WrapBestCardSaid:=
 Claim7.holds_tied_plain_at .later [] [.data,.data,.data,.data,.listed,.data,.pinned] true (true, "1d90abccd028df74583184a39b84db737824eb63473a3d72cda20383f0c2f589") true
  sG (λ_ h=>by cases h) (by kernel_rfl) (λ_ h=>by cases h) nj rfl ⟨rfl,rfl⟩ H6 rfl
  (λf fn hf hfn=>by
   obtain rfl:f=3:=Option.some.inj ((show Tryz.prog.funcNamed "unicodetext/unicodetextlaw36.WrapBest" = some 3 by kernel_rfl).symm.trans hf) |>.symm
   obtain rfl:fn=Tryz.f3:=(Option.some.inj (Tryz.func3.symm.trans hfn)).symm
   exact⟨FM,λj t ht=>by
    rw[Tryz.params3] at ht;have hm:t∈[39,40,3]:=by simpa using Array.mem_of_getElem? ht
    have hall:([39,40,3].all λu=>!Tryz.prog.wantsStandIn u)=true:=by kernel_rfl
    exact(show Tryz.prog.wantsStandIn t=false by simpa using List.all_eq_true.1 hall t hm)⟩)
  sH
end Go.Proofs.YtlimkdlhldlolaaGreatDoor
