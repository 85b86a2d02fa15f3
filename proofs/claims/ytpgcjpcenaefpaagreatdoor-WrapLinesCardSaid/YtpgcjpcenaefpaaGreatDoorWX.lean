/-
  The errors of layer 36 (the program), and how small its statements' data are.
-/
import Derived.Test.YtpgcjpcenaefpaaGreatDoorWC
set_option linter.unusedSectionVars false
namespace Go.Proofs.YtpgcjpcenaefpaaGreatDoor
open Go Go.Am Classical
set_option maxRecDepth 100000
abbrev J6:D:=.v (.pointer none)
theorem H9 {d:Db}{text:List Int}{k:Int}(ho:d.ok):@Pu gtR Tryz.prog 9 [dbD d,aD text,i64 k] (boo (decide (SmD d/\(text.length:Int)<=k))):=by
 letI:=gtR;have h:=Fg ho;refine pv Tryz.func9 ?_;repeat' ((conv=>whnf);first|exact kQ|(refine bk ?_ ?_<;>intro _<;>try exact exo)|refine stq ?_|refine cd h (λ_=>?_) (λ_=>?_)|fail)
 all_goals(conv=>whnf)
 all_goals first
  | exact aC.yes ⟨asm,om⟩
  | exact aC.no (λhc=>by have:=hc.2;omega)
  | exact aC.no (λhc=>by have:=hc.1;contradiction)
theorem EQ {d:Db}{text:List Int}{m:Int}(g:Good d) (hx:text.length<=900) (hm:¬(1<=m/\m<=1000)):@Pu gtR Tryz.prog 26 [dbD d,aD text,i64 m] (.tup [J6,i64 1]):=by
 letI:=gtR;have hO:=Ap (text:=text) g.ok g.sm g.va om;refine pv Tryz.func26 ?_;repeat' ((conv=>whnf);first|exact kQ|(refine bk ?_ ?_<;>intro _<;>try exact exo)|refine stq ?_|refine cp hO ?_|fail)
 all_goals(conv=>whnf)
 all_goals first
  | exact⟨Rd.eqd rfl rfl⟩
  | (exfalso;omega)
theorem HH {d:Db}{text:List Int}{m:Int}(ho:d.ok) (hs:SmD d) (hv:¬DbV d):@Pu gtR Tryz.prog 26 [dbD d,aD text,i64 m] (.tup [J6,i64 11]):=by
 letI:=gtR;have hO:=opp_no (text:=text) ho hs hv;refine pv Tryz.func26 ?_;repeat' ((conv=>whnf);first|exact kQ|(refine bk ?_ ?_<;>intro _<;>try exact exo)|refine stq ?_|refine cp hO ?_|fail)
 all_goals(conv=>whnf)
 exact⟨Rd.eqd rfl rfl⟩
theorem yg {d:Db}{text:List Int}{m e:Int}(h0:e≠0) (hp:@Pu gtR Tryz.prog 26 [dbD d,aD text,i64 m] (.tup [J6,i64 e])):@Pu gtR Tryz.prog 11 [dbD d,aD text,i64 m] (.tup [aJ,i64 e]):=by
 letI:=gtR;refine pv Tryz.func11 ?_;repeat' ((conv=>whnf);first|exact kQ|(refine bk ?_ ?_<;>intro _<;>try exact exo)|refine stq ?_|refine cp hp ?_|fail)
 all_goals(conv=>whnf)
 exact⟨Rd.eqd rfl rfl⟩
end Go.Proofs.YtpgcjpcenaefpaaGreatDoor
