/-
  ClustersShorter: for every input the call returns true, and its arguments read as they read before. No condition beyond the row's own (the listed tables of Go's library read as the program's text lays them: the card ties them).
-/
import Derived.Test.YtjpgpihbhicinaaGreatDoorJR
import Derived.Test.YtjpgpihbhicinaaGreatDoorL8
import Derived.Test.YtjpgpihbhicinaaGreatDoorFs
import Derived.Test.YtjpgpihbhicinaaGreatDoorCards
import Derived.Test.YtjpgpihbhicinaaGreatDoorTi
set_option linter.unusedSectionVars false
namespace Go.Proofs.YtjpgpihbhicinaaGreatDoor
open Go Go.Am Go.ChangeShapes Go.WideShapes Go.ChangeAt Go.RowKit
set_option maxRecDepth 100000
theorem iu (os:Os) (started:os.Started) (H:Type) (enc:TypeId×Value→H) :
  ReturnsInHanded {} Tryz.checked os 8 .any (fun w args=>(Rows.clustersShorterSpec.pre enc Tryz.prog Tryz.f8 [] false w args∧laidMetH Tryz.prog fM w)∧sizedMet enc Tryz.prog Tryz.f8 (OpenSpec.ofChange Rows.clustersShorterSpec) false w args)
   (Rows.clustersShorterSpec.post enc Tryz.prog Tryz.f8 false true false false):=by
 letI:=gtR
 refine eD (C:=Tryz.checked) (X:=fun w _=>laidMetH Tryz.prog fM w) (fun _ _ _ hh h=>h.of_heap hh) own started (by kernel_rfl) Tryz.func8
  (ChangeSpec.witness_shaped (enc:=enc) (C:=Tryz.checked) (os:=os) (X:=fun w _=>laidMetH Tryz.prog fM w) false (fY os) #[.agg #[.int .i64 0,.int .i64 0,.slice none 0 0,.slice none 0 0,.slice none 0 0,.slice none 0 0,.slice none 0 0,.slice none 0 0,.slice none 0 0,.slice none 0 0,.slice none 0 0,.slice none 0 0,.slice none 0 0,.slice none 0 0,.slice none 0 0,.slice none 0 0,.slice none 0 0,.slice none 0 0,.slice none 0 0,.slice none 0 0,.slice none 0 0,.slice none 0 0,.slice none 0 0,.slice none 0 0,.slice none 0 0,.slice none 0 0,.slice none 0 0,.slice none 0 0,.slice none 0 0],.slice none 0 0,.int .i64 0,.int .i64 0] 8 (World.laidAll_os _ _ _) (dI os _) (by kernel_rfl) (by kernel_rfl) (by kernel_rfl) (eo os _)) ?_
 intro W base args ds gs before hval0 hW hL hsh;have hval:∀ (j:Nat) t v,Tryz.f8.params[j]?=some t→args[j]?=some v→Value.okWide Tryz.prog W .any base t v:=hval0;have hW':=hW;obtain⟨p,q,hA0,hV,rfl,hfz,hnd⟩:=hW;have hA:DataW.TrodAll enc Tryz.prog W 0 (fun _=>true) true Tryz.f8.params.toList args.toList ds p:=hA0;rw[Tryz.params8] at hA hval;obtain⟨v0,v1,v2,v3,d0,d1,d2,d3,p0,p1,p2,p3,rfl,rfl,rfl,h0,h1,h2,h3⟩:=trodAll_four hA;obtain⟨rfl,rfl⟩:=trodVars_none hV;obtain⟨a0,ok0,V0⟩:=i0 Tryz.underlying39 Cw (hval 0 _ v0 rfl rfl) h0;obtain⟨a1,okx1,V1⟩:=kd Tryz.underlying40 pP (hval 1 _ v1 rfl rfl) h1;obtain⟨a2,okn2,V2⟩:=EX Tryz.underlying3 (hval 2 _ v2 rfl rfl) h2;obtain⟨a3,okn3,V3⟩:=EX Tryz.underlying3 (hval 3 _ v3 rfl rfl) h3;have hlt:∀ x∈(p0++p1++p2++p3)++[],x.block<W.heap.size:=hW'.lt;refine(gZ (sho_c ok0 okx1 okn2 okn3) (s9 hL hsh) (VS.cons V0 (VS.cons V1 (VS.cons V2 (VS.cons V3 VS.nil))))).mono fun e W' ⟨he,hb⟩=>?_
 subst he;have st:∀ {t:TypeId} {v:Value} {d:DataW H} {ps:List MemPlace} (hr:Tryz.prog.readableRec t=true) (hrow:t<Tryz.prog.types.size),DataW.Trod enc Tryz.prog W 0 (fun _=>true) true t v d ps→(∀ x∈ps,x.block<W.heap.size)→DataW.Trod enc Tryz.prog W' 0 (fun b=>decide (b<W.heap.size)) true t v d ps:=fun hr hrow h hx=>hb.trod oe hr hrow h hx
 refine⟨_,rfl,_,_,_,[],p0++p1++p2++p3,[],hW',trodAll_mk1 (shut_bool Tryz.underlying4 true),?_,rfl,iz hb _,fun h=>by cases h⟩;show DataW.TrodAll enc Tryz.prog W' 0 (fun b=>decide (b<W.heap.size)) true Tryz.f8.params.toList [v0,v1,v2,v3] [d0,d1,d2,d3] (p0++p1++p2++p3);rw[Tryz.params8];exact⟨p0,p1++(p2++p3),st (by kernel_rfl) (of_decide_eq_true (by kernel_rfl)) h0 (fun x hx=>hlt x (by simp[hx])),⟨p1,p2++p3,st (by kernel_rfl) (of_decide_eq_true (by kernel_rfl)) h1 (fun x hx=>hlt x (by simp[hx])),⟨p2,p3,st (by kernel_rfl) (of_decide_eq_true (by kernel_rfl)) h2 (fun x hx=>hlt x (by simp[hx])),⟨p3,[],st (by kernel_rfl) (of_decide_eq_true (by kernel_rfl)) h3 (fun x hx=>hlt x (by simp[hx])),rfl,by simp⟩,rfl⟩,rfl⟩,by simp⟩
theorem jr:Rows.ClustersShorterSaid:=
 OpenClaim.holds_of_wide 8 Tryz.f8 rfl rfl rfl rfl rfl rfl rfl ⟨rfl,rfl,rfl,rfl,rfl⟩ rfl rfl rfl rfl rfl (by kernel_rfl) Tryz.func8 iv
  (of_decide_eq_true (by kernel_rfl)) (by unfold Func.isWrapper;first|(rw[if_pos (by decide +kernel)];kernel_rfl)|(rw[if_neg (by decide +kernel)];exact⟨rfl,rfl⟩))
  (fun os started H enc _=>iu os started H enc)
theorem clustersShorter_holds:Rows.ClustersShorterCardSaid:=
 Claim7.holds_tied_plain_at .later [] [.data,.data,.data,.data,.listed,.data,.pinned] true (true, "af9250357c8cf5cc5e488a8e06ad6ccc52cade8f994168e84e87fa4b0a87fb50") true
  jr (fun _ h=>by cases h) (by kernel_rfl) (fun _ h=>by cases h) iG rfl ⟨rfl,rfl⟩ EZ rfl
  (fun f fn hf hfn=>by
   obtain rfl:f=8:=Option.some.inj ((show Tryz.prog.funcNamed "unicodetext/unicodetextlaw33.ClustersShorter" = some 8 by kernel_rfl).symm.trans hf) |>.symm
   obtain rfl:fn=Tryz.f8:=(Option.some.inj (Tryz.func8.symm.trans hfn)).symm
   exact⟨EY,fun j t ht=>by
    rw[Tryz.params8] at ht;have hm:t∈[39,40,3,3]:=by simpa using Array.mem_of_getElem? ht
    have hall:([39,40,3,3].all fun u=>!Tryz.prog.wantsStandIn u)=true:=by kernel_rfl
    exact(show Tryz.prog.wantsStandIn t=false by simpa using List.all_eq_true.1 hall t hm)⟩)
  js
end Go.Proofs.YtjpgpihbhicinaaGreatDoor
