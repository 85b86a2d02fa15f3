/-
  The example at the head of the statements of layer 36.
-/
import Derived.Test.YtpgcjpcenaefpaaGreatDoorWC
import Derived.Test.YtpgcjpcenaefpaaGreatDoorL3
import Derived.Test.YtpgcjpcenaefpaaGreatDoorHM
import Derived.Test.YtpgcjpcenaefpaaGreatDoorLA
set_option linter.unusedSectionVars false
namespace Go.Proofs.YtpgcjpcenaefpaaGreatDoor
open Go Go.Am
set_option maxRecDepth 1000000
abbrev Lm:Prp:=⟨[[79,116,104,101,114]],[]⟩
abbrev linE:Prp:=⟨[[79,116,104,101,114],[83,112,97,99,101]],[⟨32,32,1⟩]⟩
abbrev bL:Db:=⟨0,0,Lm,Lm,Lm,Lm,Lm,Lm,linE,[],[],[],[],[],[],[],[],[],[],[],[],[]⟩
theorem GH:@Pu gtR Tryz.prog 25 [] (dbD bL):=by
 letI:=gtR;exact Pu.of_t aB T0 lg rfl (by kernel_rfl:cY gtR Tryz.prog (dM Tryz.prog) spC 100 (.fn 25) [] .emp 0 (λd1 h1 _=>dC h1 100000 d1 (dbD bL))=true)
theorem nU:@Pu gtR Tryz.prog 57 [dbD bL] (i64 0):=by
 letI:=gtR;exact Pu.of_t aB T0 lg (by kernel_rfl) (by kernel_rfl:cY gtR Tryz.prog (dM Tryz.prog) spC 1000 (.fn 57) [dbD bL] .emp 0 (λd1 h1 _=>dC h1 100000 d1 (i64 0))=true)
theorem sa:∀ k,k<7->(prop bL k).names.length<=30∧(prop bL k).spans.length<=16:=λk hk=>by
 rcases(by omega:k=0∨k=1∨k=2∨k=3∨k=4∨k=5∨k=6) with rfl|rfl|rfl|rfl|rfl|rfl|rfl
 all_goals exact⟨by decide,by decide⟩
theorem AF:PrV Lm:=by
 have hw:∀ s∈Lm.names,s.all (λb=>wbN b.toNat)=true:=by decide
 refine⟨⟨by decide,by decide,λi h=>⟨⟨?_,?_,λj hj=>?_⟩,?_⟩⟩,λi h=>absurd h si⟩
 ·have h3:i<1:=h;obtain rfl:i=0:=by omega
  simp
 ·have h3:i<1:=h;obtain rfl:i=0:=by omega
  simp
 ·exact pI.1 (List.all_eq_true.1 (hw _ (kM h)) _ (kM hj))
 ·have h3:i<1:=h;obtain rfl:i=0:=by omega
  simp
theorem Dw (c:Int):@Pu gtR Tryz.prog 88 [bw Lm,i64 c] (i64 (gc Lm c)):=@FO gtR _ _ AF (by decide)
theorem qd (c:Int):gc Lm c=1:=by
 obtain⟨_,h1,h2⟩:=kn AF (c:=c) (v:=0) (by simp[fA]);rw[gc,<-h2];rfl
theorem mxS:max (0:Int) 1=1:=by decide
theorem smW {T A:List Int}{P:List Rng}{w:Int}(ha:@Pu gtR Tryz.prog 59 [bw Lm,eY,aD T] (aD A)) (hl:A.length<=1001) (hP:ptV A=P) (hc:Chn 0 P T.length) (hx:T.length<=1000) (hw:dB Lm T P=w):@Pu gtR Tryz.prog 39 [dbD bL,aD T] (.tup [i64 w,i64 0]):=by
 letI:=gtR;have hd:=xW (d:=bL) (k:=1) (t:=t1) (.inl rfl) sa nU IE;have e:eY=f9 t1:=by rw[t1,<-sU]
 rw[e] at ha;rw[<-hw];exact BB (d:=bL) Dw sa (hP▸xh hd (BC ha hl)) hc hx
theorem sa1:@Pu gtR Tryz.prog 59 [bw Lm,eY,aD [97]] (aD [2,2]):=by
 letI:=gtR;exact Pu.of_t aB T0 iw (by kernel_rfl) (by kernel_rfl:cY gtR Tryz.prog (dM Tryz.prog) uT 1000 (.fn 59) [bw Lm,eY,aD [97]] .emp 0 (λd1 h1 _=>dC h1 100000 d1 (aD [2,2]))=true)
theorem sa2:@Pu gtR Tryz.prog 59 [bw Lm,eY,aD [98]] (aD [2,2]):=by
 letI:=gtR;exact Pu.of_t aB T0 iw (by kernel_rfl) (by kernel_rfl:cY gtR Tryz.prog (dM Tryz.prog) uT 1000 (.fn 59) [bw Lm,eY,aD [98]] .emp 0 (λd1 h1 _=>dC h1 100000 d1 (aD [2,2]))=true)
theorem sa3:@Pu gtR Tryz.prog 59 [bw Lm,eY,aD [99]] (aD [2,2]):=by
 letI:=gtR;exact Pu.of_t aB T0 iw (by kernel_rfl) (by kernel_rfl:cY gtR Tryz.prog (dM Tryz.prog) uT 1000 (.fn 59) [bw Lm,eY,aD [99]] .emp 0 (λd1 h1 _=>dC h1 100000 d1 (aD [2,2]))=true)
theorem sa4:@Pu gtR Tryz.prog 59 [bw Lm,eY,aD [97,32,98]] (aD [2,2,2,2]):=by
 letI:=gtR;exact Pu.of_t aB T0 iw (by kernel_rfl) (by kernel_rfl:cY gtR Tryz.prog (dM Tryz.prog) uT 1000 (.fn 59) [bw Lm,eY,aD [97,32,98]] .emp 0 (λd1 h1 _=>dC h1 100000 d1 (aD [2,2,2,2]))=true)
theorem sa5:@Pu gtR Tryz.prog 59 [bw Lm,eY,aD [98,32,99]] (aD [2,2,2,2]):=by
 letI:=gtR;exact Pu.of_t aB T0 iw (by kernel_rfl) (by kernel_rfl:cY gtR Tryz.prog (dM Tryz.prog) uT 1000 (.fn 59) [bw Lm,eY,aD [98,32,99]] .emp 0 (λd1 h1 _=>dC h1 100000 d1 (aD [2,2,2,2]))=true)
theorem sa6:@Pu gtR Tryz.prog 59 [bw Lm,eY,aD [97,32,98,32,99]] (aD [2,2,2,2,2,2]):=by
 letI:=gtR;exact Pu.of_t aB T0 iw (by kernel_rfl) (by kernel_rfl:cY gtR Tryz.prog (dM Tryz.prog) uT 1000 (.fn 59) [bw Lm,eY,aD [97,32,98,32,99]] .emp 0 (λd1 h1 _=>dC h1 100000 d1 (aD [2,2,2,2,2,2]))=true)
theorem sa7:@Pu gtR Tryz.prog 59 [bw Lm,eY,aD [97,98]] (aD [2,2,2]):=by
 letI:=gtR;exact Pu.of_t aB T0 iw (by kernel_rfl) (by kernel_rfl:cY gtR Tryz.prog (dM Tryz.prog) uT 1000 (.fn 59) [bw Lm,eY,aD [97,98]] .emp 0 (λd1 h1 _=>dC h1 100000 d1 (aD [2,2,2]))=true)
theorem sw1:@Pu gtR Tryz.prog 39 [dbD bL,aD [97]] (.tup [i64 1,i64 0]):=smW sa1 (by decide) (P:=[⟨0,1⟩]) rfl ⟨rfl,by decide,rfl⟩ (by decide) (by simp[dB,jc,mxW,pce,qd,mxS])
theorem sw2:@Pu gtR Tryz.prog 39 [dbD bL,aD [98]] (.tup [i64 1,i64 0]):=smW sa2 (by decide) (P:=[⟨0,1⟩]) rfl ⟨rfl,by decide,rfl⟩ (by decide) (by simp[dB,jc,mxW,pce,qd,mxS])
theorem sw3:@Pu gtR Tryz.prog 39 [dbD bL,aD [99]] (.tup [i64 1,i64 0]):=smW sa3 (by decide) (P:=[⟨0,1⟩]) rfl ⟨rfl,by decide,rfl⟩ (by decide) (by simp[dB,jc,mxW,pce,qd,mxS])
theorem sw4:@Pu gtR Tryz.prog 39 [dbD bL,aD [97,32,98]] (.tup [i64 3,i64 0]):=smW sa4 (by decide) (P:=[⟨0,1⟩,⟨1,2⟩,⟨2,3⟩]) rfl ⟨rfl,by decide,rfl,by decide,rfl,by decide,rfl⟩ (by decide) (by simp[dB,jc,mxW,pce,qd,mxS])
theorem sw5:@Pu gtR Tryz.prog 39 [dbD bL,aD [98,32,99]] (.tup [i64 3,i64 0]):=smW sa5 (by decide) (P:=[⟨0,1⟩,⟨1,2⟩,⟨2,3⟩]) rfl ⟨rfl,by decide,rfl,by decide,rfl,by decide,rfl⟩ (by decide) (by simp[dB,jc,mxW,pce,qd,mxS])
theorem sw6:@Pu gtR Tryz.prog 39 [dbD bL,aD [97,32,98,32,99]] (.tup [i64 5,i64 0]):=smW sa6 (by decide) (P:=[⟨0,1⟩,⟨1,2⟩,⟨2,3⟩,⟨3,4⟩,⟨4,5⟩]) rfl ⟨rfl,by decide,rfl,by decide,rfl,by decide,rfl,by decide,rfl,by decide,rfl⟩ (by decide) (by simp[dB,jc,mxW,pce,qd,mxS])
theorem sw7:@Pu gtR Tryz.prog 39 [dbD bL,aD [97,98]] (.tup [i64 2,i64 0]):=smW sa7 (by decide) (P:=[⟨0,1⟩,⟨1,2⟩]) rfl ⟨rfl,by decide,rfl,by decide,rfl⟩ (by decide) (by simp[dB,jc,mxW,pce,qd,mxS])
theorem so1:@Pu gtR Tryz.prog 14 [dbD bL,aD [97,32,98,32,99]] (.tup [aD [2,4],i64 0]):=by
 letI:=gtR;exact Pu.of_t aB T0 gC (by kernel_rfl) (by kernel_rfl:cY gtR Tryz.prog (dM Tryz.prog) spV 3000 (.fn 14) [dbD bL,aD [97,32,98,32,99]] .emp 0 (λd1 h1 _=>dC h1 100000 d1 (.tup [aD [2,4],i64 0]))=true)
theorem sp1:@Pu gtR Tryz.prog 15 [dbD bL,aD [97,32,98,32,99]] (.tup [bB [⟨0,5⟩],i64 0]):=by
 letI:=gtR;exact Pu.of_t aB T0 gC (by kernel_rfl) (by kernel_rfl:cY gtR Tryz.prog (dM Tryz.prog) spV 3000 (.fn 15) [dbD bL,aD [97,32,98,32,99]] .emp 0 (λd1 h1 _=>dC h1 100000 d1 (.tup [bB [⟨0,5⟩],i64 0]))=true)
theorem so2:@Pu gtR Tryz.prog 14 [dbD bL,aD [97,98]] (.tup [aD [],i64 0]):=by
 letI:=gtR;exact Pu.of_t aB T0 gC (by kernel_rfl) (by kernel_rfl:cY gtR Tryz.prog (dM Tryz.prog) spV 3000 (.fn 14) [dbD bL,aD [97,98]] .emp 0 (λd1 h1 _=>dC h1 100000 d1 (.tup [aD [],i64 0]))=true)
theorem sp2:@Pu gtR Tryz.prog 15 [dbD bL,aD [97,98]] (.tup [bB [⟨0,2⟩],i64 0]):=by
 letI:=gtR;exact Pu.of_t aB T0 gC (by kernel_rfl) (by kernel_rfl:cY gtR Tryz.prog (dM Tryz.prog) spV 3000 (.fn 15) [dbD bL,aD [97,98]] .emp 0 (λd1 h1 _=>dC h1 100000 d1 (.tup [bB [⟨0,2⟩],i64 0]))=true)
theorem sv1:@Pu gtR Tryz.prog 38 [dbD bL,aD [97,32,98,32,99],dQ 0 2] (.tup [dQ 0 1,i64 0]):=by
 letI:=gtR;exact Pu.of_t aB T0 gC (by kernel_rfl) (by kernel_rfl:cY gtR Tryz.prog (dM Tryz.prog) spV 3000 (.fn 38) [dbD bL,aD [97,32,98,32,99],dQ 0 2] .emp 0 (λd1 h1 _=>dC h1 100000 d1 (.tup [dQ 0 1,i64 0]))=true)
theorem sv2:@Pu gtR Tryz.prog 38 [dbD bL,aD [97,32,98,32,99],dQ 0 4] (.tup [dQ 0 3,i64 0]):=by
 letI:=gtR;exact Pu.of_t aB T0 gC (by kernel_rfl) (by kernel_rfl:cY gtR Tryz.prog (dM Tryz.prog) spV 3000 (.fn 38) [dbD bL,aD [97,32,98,32,99],dQ 0 4] .emp 0 (λd1 h1 _=>dC h1 100000 d1 (.tup [dQ 0 3,i64 0]))=true)
theorem sv3:@Pu gtR Tryz.prog 38 [dbD bL,aD [97,32,98,32,99],dQ 0 5] (.tup [dQ 0 5,i64 0]):=by
 letI:=gtR;exact Pu.of_t aB T0 gC (by kernel_rfl) (by kernel_rfl:cY gtR Tryz.prog (dM Tryz.prog) spV 3000 (.fn 38) [dbD bL,aD [97,32,98,32,99],dQ 0 5] .emp 0 (λd1 h1 _=>dC h1 100000 d1 (.tup [dQ 0 5,i64 0]))=true)
theorem sv4:@Pu gtR Tryz.prog 38 [dbD bL,aD [97,32,98,32,99],dQ 2 4] (.tup [dQ 2 3,i64 0]):=by
 letI:=gtR;exact Pu.of_t aB T0 gC (by kernel_rfl) (by kernel_rfl:cY gtR Tryz.prog (dM Tryz.prog) spV 3000 (.fn 38) [dbD bL,aD [97,32,98,32,99],dQ 2 4] .emp 0 (λd1 h1 _=>dC h1 100000 d1 (.tup [dQ 2 3,i64 0]))=true)
theorem sv5:@Pu gtR Tryz.prog 38 [dbD bL,aD [97,32,98,32,99],dQ 2 5] (.tup [dQ 2 5,i64 0]):=by
 letI:=gtR;exact Pu.of_t aB T0 gC (by kernel_rfl) (by kernel_rfl:cY gtR Tryz.prog (dM Tryz.prog) spV 3000 (.fn 38) [dbD bL,aD [97,32,98,32,99],dQ 2 5] .emp 0 (λd1 h1 _=>dC h1 100000 d1 (.tup [dQ 2 5,i64 0]))=true)
theorem sv6:@Pu gtR Tryz.prog 38 [dbD bL,aD [97,32,98,32,99],dQ 4 5] (.tup [dQ 4 5,i64 0]):=by
 letI:=gtR;exact Pu.of_t aB T0 gC (by kernel_rfl) (by kernel_rfl:cY gtR Tryz.prog (dM Tryz.prog) spV 3000 (.fn 38) [dbD bL,aD [97,32,98,32,99],dQ 4 5] .emp 0 (λd1 h1 _=>dC h1 100000 d1 (.tup [dQ 4 5,i64 0]))=true)
theorem sv7:@Pu gtR Tryz.prog 38 [dbD bL,aD [97,98],dQ 0 2] (.tup [dQ 0 2,i64 0]):=by
 letI:=gtR;exact Pu.of_t aB T0 gC (by kernel_rfl) (by kernel_rfl:cY gtR Tryz.prog (dM Tryz.prog) spV 3000 (.fn 38) [dbD bL,aD [97,98],dQ 0 2] .emp 0 (λd1 h1 _=>dC h1 100000 d1 (.tup [dQ 0 2,i64 0]))=true)
end Go.Proofs.YtpgcjpcenaefpaaGreatDoor
