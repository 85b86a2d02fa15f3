/-
  The statement WrapLines over data.
-/
import Derived.Test.YtpgcjpcenaefpaaGreatDoorWL
import Derived.Test.YtpgcjpcenaefpaaGreatDoorWU
import Derived.Test.YtpgcjpcenaefpaaGreatDoorWX
set_option linter.unusedSectionVars false
namespace Go.Proofs.YtpgcjpcenaefpaaGreatDoor
open Go Go.Am Classical
set_option maxRecDepth 100000
theorem s8 {d:Db}{text:List Int}{m e:Int}(h0:e≠0) (hp:@Pu gtR Tryz.prog 28 [dbD d,i64 m] (i64 e)):@Pu gtR Tryz.prog 12 [dbD d,aD text,i64 m] (.tup [aJ,i64 e]):=by
 letI:=gtR;refine pv Tryz.func12 ?_;repeat' ((conv=>whnf);first|exact kQ|(refine bk ?_ ?_<;>intro _<;>try exact exo)|refine stq ?_|refine cp hp ?_|fail)
 all_goals(conv=>whnf)
 exact⟨Rd.eqd rfl rfl⟩
theorem Hj {d:Db}{text:List Int}{n:Int}(ho:d.ok) (_hx:text.length<=9223372036854775807) (_hn:-9223372036854775808<=n/\n<=9223372036854775807):@Pu gtR Tryz.prog 3 [dbD d,aD text,i64 n] (boo true):=by
 letI:=gtR;have hal:=IZ;have hF:=H9 (text:=text) (k:=10) ho;by_cases hf:SmD d/\(text.length:Int)<=10
 .rw[decide_eq_true hf] at hF;obtain⟨hs,h10⟩:=hf
  obtain⟨x,e,h1,h2,h3⟩:∃ (x:D) (e:Int),Pu Tryz.prog 11 [dbD d,aD text,i64 n] (.tup [x,i64 e])/\Pu Tryz.prog 12 [dbD d,aD text,i64 n] (.tup [x,i64 e])/\((∃ l:List Rng,l.length<=100/\x=aq l)\/x=aJ):=by
   by_cases hv:DbV d
   .have g:Good d:=⟨ho,hs,hv⟩;by_cases hm:1<=n/\n<=1000
    .have H:=g.lay (text:=text) (m:=n) om hm;refine⟨_,_,Bl H hm,EK g om hm,.inl ⟨_,?_,rfl⟩⟩;have:=vP (L:=dY d text n) H.ok (l:=(dY d text n).lin 0) (lo:=0) (Nat.zero_le _) (bU.lends_ok H.ok (Nat.zero_le _) (kP _))
     have h2:(dY d text n).n=text.length:=rfl;rw[ug];omega
    .exact⟨_,_,yg (by decide) (EQ g om hm),s8 (by decide) (zK g hm),.inr rfl⟩
   .exact⟨_,_,yg (by decide) (HH ho hs hv),s8 (by decide) (B7 ho hs hv),.inr rfl⟩
  rcases h3 with⟨l,hl,rfl⟩|rfl
  .have hE:=AZ (a:=l) om;refine pv Tryz.func3 ?_;repeat' ((conv=>whnf);first|exact kQ|(refine bk ?_ ?_<;>intro _<;>try exact exo)|refine stq ?_|refine cp hF ?_|refine cp h1 ?_|refine cp h2 ?_|refine cp hE ?_|refine cp hal ?_|fail)
   all_goals(conv=>whnf)
   exact aC.same rfl rfl
  .have hE:=J2;refine pv Tryz.func3 ?_;repeat' ((conv=>whnf);first|exact kQ|(refine bk ?_ ?_<;>intro _<;>try exact exo)|refine stq ?_|refine cp hF ?_|refine cp h1 ?_|refine cp h2 ?_|refine cp hE ?_|refine cp hal ?_|fail)
   all_goals(conv=>whnf)
   exact aC.same rfl rfl
 .rw[decide_eq_false hf] at hF;refine pv Tryz.func3 ?_;repeat' ((conv=>whnf);first|exact kQ|(refine bk ?_ ?_<;>intro _<;>try exact exo)|refine stq ?_|refine cp hF ?_|refine cp hal ?_|fail)
  all_goals(conv=>whnf)
  exact aC.same rfl rfl
end Go.Proofs.YtpgcjpcenaefpaaGreatDoor
