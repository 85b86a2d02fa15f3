/-
  WrapLines: for every input the call returns true, and its arguments read as they read before. No condition beyond the row's own (the listed tables of Go's library read as the program's text lays them: the card ties them).
-/
import Derived.Test.YtpgcjpcenaefpaaGreatDoorJR
import Derived.Test.YtpgcjpcenaefpaaGreatDoorWR
import Derived.Test.YtpgcjpcenaefpaaGreatDoorF7
import Derived.Test.YtpgcjpcenaefpaaGreatDoorCards
import Derived.Test.YtpgcjpcenaefpaaGreatDoorTi
set_option linter.unusedSectionVars false
namespace Go.Proofs.YtpgcjpcenaefpaaGreatDoor
open Go Go.Am Go.ChangeShapes Go.WideShapes Go.ChangeAt Go.RowKit
set_option maxRecDepth 100000
theorem nW (os:Os) (started:os.Started) (H:Type) (enc:TypeId×Value->H) :
  ReturnsInHanded {} Tryz.checked os 3 .any (λw args=>(Rows.wrapLinesSpec.pre enc Tryz.prog Tryz.f3 [] false w args/\laidMetH Tryz.prog qt w)/\sizedMet enc Tryz.prog Tryz.f3 (OpenSpec.ofChange Rows.wrapLinesSpec) false w args)
   (Rows.wrapLinesSpec.post enc Tryz.prog Tryz.f3 false true false false):=by
 letI:=gtR
 refine qL (C:=Tryz.checked) (X:=λw _=>laidMetH Tryz.prog qt w) (λ_ _ _ hh h=>h.of_heap hh) own started (by kernel_rfl) Tryz.func3
  (ChangeSpec.witness_shaped (enc:=enc) (C:=Tryz.checked) (os:=os) (X:=λw _=>laidMetH Tryz.prog qt w) false (n8 os) #[.agg #[.int .i64 0,.int .i64 0,.slice none 0 0,.slice none 0 0,.slice none 0 0,.slice none 0 0,.slice none 0 0,.slice none 0 0,.slice none 0 0,.slice none 0 0,.slice none 0 0,.slice none 0 0,.slice none 0 0,.slice none 0 0,.slice none 0 0,.slice none 0 0,.slice none 0 0,.slice none 0 0,.slice none 0 0,.slice none 0 0,.slice none 0 0,.slice none 0 0,.slice none 0 0,.slice none 0 0,.slice none 0 0,.slice none 0 0,.slice none 0 0,.slice none 0 0,.slice none 0 0],.slice none 0 0,.int .i64 0] 8 (World.laidAll_os _ _ _) (n7 os _) (by kernel_rfl) (by kernel_rfl) (by kernel_rfl) (sJ os _)) ?_
 intro W base args ds gs before hval0 hW hL hsh;have hval:∀ (j:Nat) t v,Tryz.f3.params[j]?=some t->args[j]?=some v->Value.okWide Tryz.prog W .any base t v:=hval0;have hW':=hW;obtain⟨p,q,hA0,hV,rfl,hfz,hnd⟩:=hW;have hA:DataW.TrodAll enc Tryz.prog W 0 (λ_=>true) true Tryz.f3.params.toList args.toList ds p:=hA0;rw[Tryz.params3] at hA hval;obtain⟨v0,v1,v2,d0,d1,d2,p0,p1,p2,rfl,rfl,rfl,h0,h1,h2⟩:=trodAll_three hA;obtain⟨rfl,rfl⟩:=trodVars_none hV;obtain⟨a0,ok0,V0⟩:=AE Tryz.underlying39 r_db (hval 0 _ v0 rfl rfl) h0;obtain⟨a1,okx1,V1⟩:=DC Tryz.underlying40 EF (hval 1 _ v1 rfl rfl) h1;obtain⟨a2,okn2,V2⟩:=IV Tryz.underlying3 (hval 2 _ v2 rfl rfl) h2;have hlt:∀ x∈(p0++p1++p2)++[],x.block<W.heap.size:=hW'.lt;refine(yJ (Hj ok0 okx1 okn2) (J5 hL hsh) (VS.cons V0 (VS.cons V1 (VS.cons V2 VS.nil)))).mono λe W' ⟨he,hb⟩=>?_
 subst he;have st:∀ {t:TypeId} {v:Value} {d:DataW H} {ps:List MemPlace} (hr:Tryz.prog.readableRec t=true) (hrow:t<Tryz.prog.types.size),DataW.Trod enc Tryz.prog W 0 (λ_=>true) true t v d ps->(∀ x∈ps,x.block<W.heap.size)->DataW.Trod enc Tryz.prog W' 0 (λb=>decide (b<W.heap.size)) true t v d ps:=λhr hrow h hx=>hb.trod Hn hr hrow h hx
 refine⟨_,rfl,_,_,_,[],p0++p1++p2,[],hW',trodAll_mk1 (shut_bool Tryz.underlying4 true),?_,rfl,z8 hb _,λh=>by cases h⟩;show DataW.TrodAll enc Tryz.prog W' 0 (λb=>decide (b<W.heap.size)) true Tryz.f3.params.toList [v0,v1,v2] [d0,d1,d2] (p0++p1++p2);rw[Tryz.params3];exact⟨p0,p1++p2,st (by kernel_rfl) (of_decide_eq_true (by kernel_rfl)) h0 (λx hx=>hlt x (by simp[hx])),⟨p1,p2,st (by kernel_rfl) (of_decide_eq_true (by kernel_rfl)) h1 (λx hx=>hlt x (by simp[hx])),⟨p2,[],st (by kernel_rfl) (of_decide_eq_true (by kernel_rfl)) h2 (λx hx=>hlt x (by simp[hx])),rfl,si⟩,rfl⟩,si⟩
theorem p8:Rows.WrapLinesSaid:=
 OpenClaim.holds_of_wide 3 Tryz.f3 rfl rfl rfl rfl rfl rfl rfl ⟨rfl,rfl,rfl,rfl,rfl⟩ rfl rfl rfl rfl rfl (by kernel_rfl) Tryz.func3 nX
  (of_decide_eq_true (by kernel_rfl)) (by unfold Func.isWrapper;first|(rw[if_pos (by decide +kernel)];kernel_rfl)|(rw[if_neg (by decide +kernel)];exact⟨rfl,rfl⟩))
  (λos started H enc _=>nW os started H enc)
theorem wrapLines_holds:Rows.WrapLinesCardSaid:=
 Claim7.holds_tied_plain_at .later [] [.data,.data,.data,.data,.listed,.data,.pinned] true (true, "44c1af091d427469d3064f3a14dfb59bd4657c5ac27385ec9aa1e317bf063531") true
  p8 (λ_ h=>by cases h) (by kernel_rfl) (λ_ h=>by cases h) mc rfl ⟨rfl,rfl⟩ Hf rfl
  (λf fn hf hfn=>by
   obtain rfl:f=3:=Option.some.inj ((show Tryz.prog.funcNamed "unicodetext/unicodetextlaw36.WrapLines" = some 3 by kernel_rfl).symm.trans hf) |>.symm
   obtain rfl:fn=Tryz.f3:=(Option.some.inj (Tryz.func3.symm.trans hfn)).symm
   exact⟨E0,λj t ht=>by
    rw[Tryz.params3] at ht;have hm:t∈[39,40,3]:=by simpa using Array.mem_of_getElem? ht
    have hall:([39,40,3].all λu=>!Tryz.prog.wantsStandIn u)=true:=by kernel_rfl
    exact(show Tryz.prog.wantsStandIn t=false by simpa using List.all_eq_true.1 hall t hm)⟩)
  p9
end Go.Proofs.YtpgcjpcenaefpaaGreatDoor
