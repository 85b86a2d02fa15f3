/-
  The example at the head of the statements of layer 36.
-/
import Derived.Test.YtpgcjpcenaefpaaGreatDoorWC
import Derived.Test.YtpgcjpcenaefpaaGreatDoorL3
import Derived.Test.YtpgcjpcenaefpaaGreatDoorHM
import Derived.Test.YtpgcjpcenaefpaaGreatDoorLA
set_option linter.unusedSectionVars false
namespace Go.Proofs.YtpgcjpcenaefpaaGreatDoor
open Go Go.Am
set_option maxRecDepth 1000000
abbrev fK:Prp:=⟨[[79,116,104,101,114]],[]⟩
abbrev linE:Prp:=⟨[[79,116,104,101,114],[83,112,97,99,101]],[⟨32,32,1⟩]⟩
abbrev bR:Db:=⟨0,0,fK,fK,fK,fK,fK,fK,linE,[],[],[],[],[],[],[],[],[],[],[],[],[]⟩
theorem Gr:@Pu gtR Tryz.prog 25 [] (dbD bR):=by
 letI:=gtR;exact Pu.of_t aB T0 eU rfl (by kernel_rfl:cH gtR Tryz.prog (cg Tryz.prog) spC 100 (.fn 25) [] .emp 0 (λd1 h1 _=>cN h1 100000 d1 (dbD bR))=true)
theorem ni:@Pu gtR Tryz.prog 57 [dbD bR] (i64 0):=by
 letI:=gtR;exact Pu.of_t aB T0 eU (by kernel_rfl) (by kernel_rfl:cH gtR Tryz.prog (cg Tryz.prog) spC 1000 (.fn 57) [dbD bR] .emp 0 (λd1 h1 _=>cN h1 100000 d1 (i64 0))=true)
theorem sn:∀ k,k<7->(prop bR k).names.length<=30/\(prop bR k).spans.length<=16:=λk hk=>by
 rcases(by omega:k=0\/k=1\/k=2\/k=3\/k=4\/k=5\/k=6) with rfl|rfl|rfl|rfl|rfl|rfl|rfl
 all_goals exact⟨by decide,by decide⟩
theorem Ao:PrV fK:=by
 have hw:∀ s∈fK.names,s.all (λb=>wbN b.toNat)=true:=by decide
 refine⟨⟨by decide,by decide,λi h=>⟨⟨?_,?_,λj hj=>?_⟩,?_⟩⟩,λi h=>absurd h si⟩
 .have h3:i<1:=h;obtain rfl:i=0:=by omega
  simp
 .have h3:i<1:=h;obtain rfl:i=0:=by omega
  simp
 .exact pG.1 (List.all_eq_true.1 (hw _ (kM h)) _ (kM hj))
 .have h3:i<1:=h;obtain rfl:i=0:=by omega
  simp
theorem Ec (c:Int):@Pu gtR Tryz.prog 88 [bV fK,i64 c] (i64 (ez fK c)):=@Fs gtR _ _ Ao (by decide)
theorem qY (c:Int):ez fK c=1:=by
 obtain⟨_,h1,h2⟩:=lD Ao (c:=c) (v:=0) (by simp[de]);rw[ez,<-h2];rfl
theorem mxS:max (0:Int) 1=1:=by decide
theorem smW {T A:List Int}{P:List Rng}{w:Int}(ha:@Pu gtR Tryz.prog 59 [bV fK,fB,aD T] (aD A)) (hl:A.length<=1001) (hP:ptV A=P) (hc:Chn 0 P T.length) (hx:T.length<=1000) (hw:cu fK T P=w):@Pu gtR Tryz.prog 39 [dbD bR,aD T] (.tup [i64 w,i64 0]):=by
 letI:=gtR;have hd:=yA (d:=bR) (k:=1) (t:=t1) (.inl rfl) sn ni Ir;have e:fB=gQ t1:=by rw[t1,<-sa]
 rw[e] at ha;rw[<-hw];exact Bh (d:=bR) Ec sn (hP▸yM hd (Bi ha hl)) hc hx
theorem sa1:@Pu gtR Tryz.prog 59 [bV fK,fB,aD [97]] (aD [2,2]):=by
 letI:=gtR;exact Pu.of_t aB T0 jH (by kernel_rfl) (by kernel_rfl:cH gtR Tryz.prog (cg Tryz.prog) ub 1000 (.fn 59) [bV fK,fB,aD [97]] .emp 0 (λd1 h1 _=>cN h1 100000 d1 (aD [2,2]))=true)
theorem sa2:@Pu gtR Tryz.prog 59 [bV fK,fB,aD [98]] (aD [2,2]):=by
 letI:=gtR;exact Pu.of_t aB T0 jH (by kernel_rfl) (by kernel_rfl:cH gtR Tryz.prog (cg Tryz.prog) ub 1000 (.fn 59) [bV fK,fB,aD [98]] .emp 0 (λd1 h1 _=>cN h1 100000 d1 (aD [2,2]))=true)
theorem sa3:@Pu gtR Tryz.prog 59 [bV fK,fB,aD [99]] (aD [2,2]):=by
 letI:=gtR;exact Pu.of_t aB T0 jH (by kernel_rfl) (by kernel_rfl:cH gtR Tryz.prog (cg Tryz.prog) ub 1000 (.fn 59) [bV fK,fB,aD [99]] .emp 0 (λd1 h1 _=>cN h1 100000 d1 (aD [2,2]))=true)
theorem sa4:@Pu gtR Tryz.prog 59 [bV fK,fB,aD [97,32,98]] (aD [2,2,2,2]):=by
 letI:=gtR;exact Pu.of_t aB T0 jH (by kernel_rfl) (by kernel_rfl:cH gtR Tryz.prog (cg Tryz.prog) ub 1000 (.fn 59) [bV fK,fB,aD [97,32,98]] .emp 0 (λd1 h1 _=>cN h1 100000 d1 (aD [2,2,2,2]))=true)
theorem sa5:@Pu gtR Tryz.prog 59 [bV fK,fB,aD [98,32,99]] (aD [2,2,2,2]):=by
 letI:=gtR;exact Pu.of_t aB T0 jH (by kernel_rfl) (by kernel_rfl:cH gtR Tryz.prog (cg Tryz.prog) ub 1000 (.fn 59) [bV fK,fB,aD [98,32,99]] .emp 0 (λd1 h1 _=>cN h1 100000 d1 (aD [2,2,2,2]))=true)
theorem sa6:@Pu gtR Tryz.prog 59 [bV fK,fB,aD [97,32,98,32,99]] (aD [2,2,2,2,2,2]):=by
 letI:=gtR;exact Pu.of_t aB T0 jH (by kernel_rfl) (by kernel_rfl:cH gtR Tryz.prog (cg Tryz.prog) ub 1000 (.fn 59) [bV fK,fB,aD [97,32,98,32,99]] .emp 0 (λd1 h1 _=>cN h1 100000 d1 (aD [2,2,2,2,2,2]))=true)
theorem sa7:@Pu gtR Tryz.prog 59 [bV fK,fB,aD [97,98]] (aD [2,2,2]):=by
 letI:=gtR;exact Pu.of_t aB T0 jH (by kernel_rfl) (by kernel_rfl:cH gtR Tryz.prog (cg Tryz.prog) ub 1000 (.fn 59) [bV fK,fB,aD [97,98]] .emp 0 (λd1 h1 _=>cN h1 100000 d1 (aD [2,2,2]))=true)
theorem sw1:@Pu gtR Tryz.prog 39 [dbD bR,aD [97]] (.tup [i64 1,i64 0]):=smW sa1 (by decide) (P:=[⟨0,1⟩]) rfl ⟨rfl,by decide,rfl⟩ (by decide) (by simp[cu,eT,mxW,pce,qY,mxS])
theorem sw2:@Pu gtR Tryz.prog 39 [dbD bR,aD [98]] (.tup [i64 1,i64 0]):=smW sa2 (by decide) (P:=[⟨0,1⟩]) rfl ⟨rfl,by decide,rfl⟩ (by decide) (by simp[cu,eT,mxW,pce,qY,mxS])
theorem sw3:@Pu gtR Tryz.prog 39 [dbD bR,aD [99]] (.tup [i64 1,i64 0]):=smW sa3 (by decide) (P:=[⟨0,1⟩]) rfl ⟨rfl,by decide,rfl⟩ (by decide) (by simp[cu,eT,mxW,pce,qY,mxS])
theorem sw4:@Pu gtR Tryz.prog 39 [dbD bR,aD [97,32,98]] (.tup [i64 3,i64 0]):=smW sa4 (by decide) (P:=[⟨0,1⟩,⟨1,2⟩,⟨2,3⟩]) rfl ⟨rfl,by decide,rfl,by decide,rfl,by decide,rfl⟩ (by decide) (by simp[cu,eT,mxW,pce,qY,mxS])
theorem sw5:@Pu gtR Tryz.prog 39 [dbD bR,aD [98,32,99]] (.tup [i64 3,i64 0]):=smW sa5 (by decide) (P:=[⟨0,1⟩,⟨1,2⟩,⟨2,3⟩]) rfl ⟨rfl,by decide,rfl,by decide,rfl,by decide,rfl⟩ (by decide) (by simp[cu,eT,mxW,pce,qY,mxS])
theorem sw6:@Pu gtR Tryz.prog 39 [dbD bR,aD [97,32,98,32,99]] (.tup [i64 5,i64 0]):=smW sa6 (by decide) (P:=[⟨0,1⟩,⟨1,2⟩,⟨2,3⟩,⟨3,4⟩,⟨4,5⟩]) rfl ⟨rfl,by decide,rfl,by decide,rfl,by decide,rfl,by decide,rfl,by decide,rfl⟩ (by decide) (by simp[cu,eT,mxW,pce,qY,mxS])
theorem sw7:@Pu gtR Tryz.prog 39 [dbD bR,aD [97,98]] (.tup [i64 2,i64 0]):=smW sa7 (by decide) (P:=[⟨0,1⟩,⟨1,2⟩]) rfl ⟨rfl,by decide,rfl,by decide,rfl⟩ (by decide) (by simp[cu,eT,mxW,pce,qY,mxS])
theorem so1:@Pu gtR Tryz.prog 14 [dbD bR,aD [97,32,98,32,99]] (.tup [aD [2,4],i64 0]):=by
 letI:=gtR;exact Pu.of_t aB T0 gS (by kernel_rfl) (by kernel_rfl:cH gtR Tryz.prog (cg Tryz.prog) spV 3000 (.fn 14) [dbD bR,aD [97,32,98,32,99]] .emp 0 (λd1 h1 _=>cN h1 100000 d1 (.tup [aD [2,4],i64 0]))=true)
theorem sp1:@Pu gtR Tryz.prog 15 [dbD bR,aD [97,32,98,32,99]] (.tup [aq [⟨0,5⟩],i64 0]):=by
 letI:=gtR;exact Pu.of_t aB T0 gS (by kernel_rfl) (by kernel_rfl:cH gtR Tryz.prog (cg Tryz.prog) spV 3000 (.fn 15) [dbD bR,aD [97,32,98,32,99]] .emp 0 (λd1 h1 _=>cN h1 100000 d1 (.tup [aq [⟨0,5⟩],i64 0]))=true)
theorem so2:@Pu gtR Tryz.prog 14 [dbD bR,aD [97,98]] (.tup [aD [],i64 0]):=by
 letI:=gtR;exact Pu.of_t aB T0 gS (by kernel_rfl) (by kernel_rfl:cH gtR Tryz.prog (cg Tryz.prog) spV 3000 (.fn 14) [dbD bR,aD [97,98]] .emp 0 (λd1 h1 _=>cN h1 100000 d1 (.tup [aD [],i64 0]))=true)
theorem sp2:@Pu gtR Tryz.prog 15 [dbD bR,aD [97,98]] (.tup [aq [⟨0,2⟩],i64 0]):=by
 letI:=gtR;exact Pu.of_t aB T0 gS (by kernel_rfl) (by kernel_rfl:cH gtR Tryz.prog (cg Tryz.prog) spV 3000 (.fn 15) [dbD bR,aD [97,98]] .emp 0 (λd1 h1 _=>cN h1 100000 d1 (.tup [aq [⟨0,2⟩],i64 0]))=true)
theorem sv1:@Pu gtR Tryz.prog 38 [dbD bR,aD [97,32,98,32,99],dK 0 2] (.tup [dK 0 1,i64 0]):=by
 letI:=gtR;exact Pu.of_t aB T0 gS (by kernel_rfl) (by kernel_rfl:cH gtR Tryz.prog (cg Tryz.prog) spV 3000 (.fn 38) [dbD bR,aD [97,32,98,32,99],dK 0 2] .emp 0 (λd1 h1 _=>cN h1 100000 d1 (.tup [dK 0 1,i64 0]))=true)
theorem sv2:@Pu gtR Tryz.prog 38 [dbD bR,aD [97,32,98,32,99],dK 0 4] (.tup [dK 0 3,i64 0]):=by
 letI:=gtR;exact Pu.of_t aB T0 gS (by kernel_rfl) (by kernel_rfl:cH gtR Tryz.prog (cg Tryz.prog) spV 3000 (.fn 38) [dbD bR,aD [97,32,98,32,99],dK 0 4] .emp 0 (λd1 h1 _=>cN h1 100000 d1 (.tup [dK 0 3,i64 0]))=true)
theorem sv3:@Pu gtR Tryz.prog 38 [dbD bR,aD [97,32,98,32,99],dK 0 5] (.tup [dK 0 5,i64 0]):=by
 letI:=gtR;exact Pu.of_t aB T0 gS (by kernel_rfl) (by kernel_rfl:cH gtR Tryz.prog (cg Tryz.prog) spV 3000 (.fn 38) [dbD bR,aD [97,32,98,32,99],dK 0 5] .emp 0 (λd1 h1 _=>cN h1 100000 d1 (.tup [dK 0 5,i64 0]))=true)
theorem sv4:@Pu gtR Tryz.prog 38 [dbD bR,aD [97,32,98,32,99],dK 2 4] (.tup [dK 2 3,i64 0]):=by
 letI:=gtR;exact Pu.of_t aB T0 gS (by kernel_rfl) (by kernel_rfl:cH gtR Tryz.prog (cg Tryz.prog) spV 3000 (.fn 38) [dbD bR,aD [97,32,98,32,99],dK 2 4] .emp 0 (λd1 h1 _=>cN h1 100000 d1 (.tup [dK 2 3,i64 0]))=true)
theorem sv5:@Pu gtR Tryz.prog 38 [dbD bR,aD [97,32,98,32,99],dK 2 5] (.tup [dK 2 5,i64 0]):=by
 letI:=gtR;exact Pu.of_t aB T0 gS (by kernel_rfl) (by kernel_rfl:cH gtR Tryz.prog (cg Tryz.prog) spV 3000 (.fn 38) [dbD bR,aD [97,32,98,32,99],dK 2 5] .emp 0 (λd1 h1 _=>cN h1 100000 d1 (.tup [dK 2 5,i64 0]))=true)
theorem sv6:@Pu gtR Tryz.prog 38 [dbD bR,aD [97,32,98,32,99],dK 4 5] (.tup [dK 4 5,i64 0]):=by
 letI:=gtR;exact Pu.of_t aB T0 gS (by kernel_rfl) (by kernel_rfl:cH gtR Tryz.prog (cg Tryz.prog) spV 3000 (.fn 38) [dbD bR,aD [97,32,98,32,99],dK 4 5] .emp 0 (λd1 h1 _=>cN h1 100000 d1 (.tup [dK 4 5,i64 0]))=true)
theorem sv7:@Pu gtR Tryz.prog 38 [dbD bR,aD [97,98],dK 0 2] (.tup [dK 0 2,i64 0]):=by
 letI:=gtR;exact Pu.of_t aB T0 gS (by kernel_rfl) (by kernel_rfl:cH gtR Tryz.prog (cg Tryz.prog) spV 3000 (.fn 38) [dbD bR,aD [97,98],dK 0 2] .emp 0 (λd1 h1 _=>cN h1 100000 d1 (.tup [dK 0 2,i64 0]))=true)
end Go.Proofs.YtpgcjpcenaefpaaGreatDoor
