/-
  The example at the head of the statements of layer 36: its layouts, and what the program answers.
-/
import Derived.Test.YtpgcjpcenaefpaaGreatDoorWH
import Derived.Test.YtpgcjpcenaefpaaGreatDoorWQ
import Derived.Test.YtpgcjpcenaefpaaGreatDoorLA
set_option linter.unusedSectionVars false
namespace Go.Proofs.YtpgcjpcenaefpaaGreatDoor
open Go Go.Am Classical
set_option maxRecDepth 100000
theorem xWU.rdX {p:Prop}(h:p:=by first|exact lb rfl rfl rfl rfl|exact FV (b:=[⟨0,4⟩,⟨4,5⟩]) rfl rfl rfl rfl|fail):p:=h
open xWU
abbrev Gi:List Int:=[97,32,98,32,99]
def zj:bU:=⟨5,λk=>k == 2 || k == 4 || k == 5,λk=>if k<5 then 5 else 0,λa b=>((2*((b+1) / 2)-1-a:Nat):Int),3⟩
def CZ:bU:=⟨2,λk=>k == 2,λk=>if k<2 then 2 else 0,λa b=>((b-a:Nat):Int),1⟩
theorem Hm:zj.ok:=by
 refine⟨λ{k} hk=>?_,λ{k x} hk h1 h2=>?_,λ{a b} hb=>?_,λ{a b c} h=>?_,by decide⟩
 .have h:k<5:=hk;show k<(if k<5 then 5 else 0)/\(if k<5 then 5 else 0)<=5/\(zj.can (if k<5 then 5 else 0))=true;rw[if_pos h];exact⟨h,kP _,rfl⟩
 .have h:k<5:=hk;have h3:x<(if k<5 then 5 else 0):=h2;rw[if_pos h] at h3;show(if x<5 then 5 else 0)=(if k<5 then 5 else 0);rw[if_pos h,if_pos h3]
 .have h:b<=5:=hb;show 0<=((2*((b+1) / 2)-1-a:Nat):Int)/\((2*((b+1) / 2)-1-a:Nat):Int)<=80;omega
 .show((2*((b+1) / 2)-1-a:Nat):Int)<=((2*((c+1) / 2)-1-a:Nat):Int);omega
theorem Hl:CZ.ok:=by
 refine⟨λ{k} hk=>?_,λ{k x} hk h1 h2=>?_,λ{a b} hb=>?_,λ{a b c} h=>?_,by decide⟩
 .have h:k<2:=hk;show k<(if k<2 then 2 else 0)/\(if k<2 then 2 else 0)<=2/\(CZ.can (if k<2 then 2 else 0))=true;rw[if_pos h];exact⟨h,kP _,rfl⟩
 .have h:k<2:=hk;have h3:x<(if k<2 then 2 else 0):=h2;rw[if_pos h] at h3;show(if x<2 then 2 else 0)=(if k<2 then 2 else 0);rw[if_pos h,if_pos h3]
 .have h:b<=2:=hb;show 0<=((b-a:Nat):Int)/\((b-a:Nat):Int)<=80;omega
 .show((b-a:Nat):Int)<=((c-a:Nat):Int);omega
theorem xU {k:Nat}:zj.can k=true↔k=2\/k=4\/k=5:=by
 show(k == 2 || k == 4 || k == 5)=true↔_;simp[or_assoc]
theorem xT {k:Nat}:CZ.can k=true↔k=2:=by
 show(k == 2)=true↔_;simp
theorem FC:v8 bR Gi 3 zj [2,4] [⟨0,5⟩]:=by
 refine⟨rfl,rfl,λk=>?_,λk=>?_,Hm,by decide,by decide,ni,so1,sp1,⟨rfl,by decide,rfl⟩,λx hx=>?_,λa b ha hb hab hbn=>?_⟩
 .rw[Bool.eq_iff_iff,xU,mP,decide_eq_true_eq];simp only[kH,List.not_mem_nil,or_false,exists_eq_left];omega
 .show(if k<5 then 5 else 0)=if(k:Int)<5 then 5 else 0
  by_cases h:k<5
  .rw[if_pos h,if_pos om]
  .rw[if_neg h,if_neg om]
 .simp only[kH,List.not_mem_nil,or_false] at hx;show 0<=x/\x<=5;omega
 .rw[xU] at ha hb;have hbn':b<=5:=hbn;rcases(by omega:(a=0/\b=2)\/(a=0/\b=4)\/(a=0/\b=5)\/(a=2/\b=4)\/(a=2/\b=5)\/(a=4/\b=5)) with⟨rfl,rfl⟩|⟨rfl,rfl⟩|⟨rfl,rfl⟩|⟨rfl,rfl⟩|⟨rfl,rfl⟩|⟨rfl,rfl⟩
  .exact⟨1,by decide,by decide,sv1,sw1⟩
  .exact⟨3,by decide,by decide,sv2,sw4⟩
  .exact⟨5,by decide,by decide,sv3,sw6⟩
  .exact⟨3,by decide,by decide,sv4,sw2⟩
  .exact⟨5,by decide,by decide,sv5,sw5⟩
  .exact⟨5,by decide,by decide,sv6,sw3⟩
theorem lay2_H:v8 bR [97,98] 1 CZ [] [⟨0,2⟩]:=by
 refine⟨rfl,rfl,λk=>?_,λk=>?_,Hl,by decide,by decide,ni,so2,sp2,⟨rfl,by decide,rfl⟩,λx hx=>(by cases hx),λa b ha hb hab hbn=>?_⟩
 .rw[Bool.eq_iff_iff,xT,mP,decide_eq_true_eq];simp only[kH,List.not_mem_nil,or_false,false_or,exists_eq_left];omega
 .show(if k<2 then 2 else 0)=if(k:Int)<2 then 2 else 0
  by_cases h:k<2
  .rw[if_pos h,if_pos om]
  .rw[if_neg h,if_neg om]
 .rw[xT] at ha hb;have hbn':b<=2:=hbn;rcases(by omega:a=0/\b=2) with⟨rfl,rfl⟩
  exact⟨2,by decide,by decide,sv7,sw7⟩
theorem FA:zj.lin 0=[4,5]:=by decide
theorem FB:mO zj 0 [2,5]=some 4:=by simp[mO,zj,bU.cst]
theorem E9:mO CZ 0 [2]=some 1000:=by simp[mO,CZ,bU.cst]
theorem ex36_l:@Pu gtR Tryz.prog 11 [dbD bR,aD Gi,i64 3] (.tup [aq [⟨0,4⟩,⟨4,5⟩],i64 0]):=by
 have h:=Bl FC (by decide);rw[FA] at h;exact h
theorem ex36_1:@Pu gtR Tryz.prog 21 [dbD bR,aD Gi,i64 3,aD [2,5]] (.tup [i64 4,i64 0]):=by
 have h:=GV FC (by decide) (l:=[2,5]) (by decide);rw[FB] at h;exact h
theorem ex36_2:@Pu gtR Tryz.prog 21 [dbD bR,aD [97,98],i64 1,aD [2]] (.tup [i64 1000,i64 0]):=by
 have h:=GV lay2_H (by decide) (l:=[2]) (by decide);rw[E9] at h;exact h
theorem IZ:@Pu gtR Tryz.prog 10 [] (boo true):=by
 letI:=gtR;have hdb:aK (dbD bR)=true:=by kernel_rfl
 have h0:=Gr;have h1:=ex36_l;have h2:=ex36_1;have h3:=ex36_2;have hS:=AZ (a:=[⟨0,4⟩,⟨4,5⟩]) (by decide);refine pv Tryz.func10 ?_;repeat' ((conv=>whnf);first|refine cZ.weak (x:=Code.seq (Code.region 2 _ false) _) aB T0 (s0:=⟨tmp 54 [(1,aD Gi)],⟨0,[]⟩⟩) ?_ ?_|exact kQ|(refine bk ?_ ?_<;>intro _<;>try exact exo)|refine stq ?_|refine cp h0 ?_|refine cp h1 ?_|refine Cll.emb (h2 ⟨0,[]⟩) [] [10] (.tup [i64 4,i64 0]) [] [] rfl cO bxA rdA bxA reA ?_|refine Cll.emb (h3 ⟨0,[]⟩) [] [18,19] (.tup [i64 1000,i64 0]) [] [] rfl cO bxA rdA bxA reA ?_|refine Cll.emb (hS ⟨0,[]⟩) [] [29] (boo true) [] [] rfl cO bxA rdA bxA reA ?_|fail)
 .exact lq [] [1]
 all_goals(conv=>whnf)
 exact aC.same rfl rfl
end Go.Proofs.YtpgcjpcenaefpaaGreatDoor
