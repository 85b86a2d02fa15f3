/-
  The specification of layer 33, over data: classes, boundaries and ranges by the rules are the program's.
-/
import Derived.Test.YtpgcjpcenaefpaaGreatDoorL3
import Derived.Test.YtpgcjpcenaefpaaGreatDoorV0
import Derived.Test.YtpgcjpcenaefpaaGreatDoorX0
set_option linter.unusedSectionVars false
namespace Go.Proofs.YtpgcjpcenaefpaaGreatDoor
section
open Go Go.Am Classical
set_option maxRecDepth 100000
theorem xLA.rdX {p:Prop}(h:p:=by first|exact Rd.nil|exact tO (b:=x::xs) rfl rfl (aN _) rfl|exact Rd.sl' rfl sim sim|fail):p:=h
theorem xLA.rbX {p:Prop}(h:p:=by first|exact Rb.cells (Rds.same (s6 _ _)) rfl|exact Rb.cells (Rds.same (cT _)) rfl|exact Rb.cells (Rds.eqs (aU (by intro _;rfl) (x::xs) _) (aE (by intro _;rfl) _)) rfl|exact Rb.cells (Rds.eqs (aU (by intro _;rfl) (y::ys) _) (aE (by intro _;rfl) _)) rfl|fail):p:=h
open xLA
theorem we (cl:List Str) (rs:List Rul):aI (.agg [strs cl,lstS iM rs])=true:=by
 letI:=gtR;simp[aI,aF,ai,i7]
section
variable [GT]
end
end
section
open Go Go.Am Classical
set_option maxRecDepth 100000
theorem xLB.rdX {p:Prop}(h:p:=by first|exact tO rfl rfl (by first|(rw[hFe];rfl;done)|fail) (by first|(rw[hFe];simp;done)|fail)|exact Rd.sl' rfl sim sim|exact tO rfl rfl (by first|(rw[hFe];exact Fg (x::xs) [_];done)|fail) (by first|(rw[hFe];simp;done)|fail)|fail):p:=h
theorem xLB.rbX {p:Prop}(h:p:=by first|exact Rb.cells (Rds.eqs (aU (c:=bX) (sz:=2) (by intro _;rfl) (x::xs) (⟨s,F[j]⟩:Rng)) (aE (by intro _;rfl) _)) rfl|fail):p:=h
open xLB
theorem Fg (l m:List Int):((l.flatMap λx=>[i64 x]).drop 0).take (l.length*1)++m.map i64=(l++m).map i64:=by
 rw[aN,List.drop_zero,Nat.mul_one,kE si,List.map_append]
theorem GF {a:List Rng}(ha:a.length<=1000):@Pu gtR Tryz.prog 13 [bB a,bB a] (boo true):=by
 letI:=gtR;refine pv Tryz.func13 ?_;repeat' ((conv=>whnf);first|exact kQ|(refine bk ?_ ?_<;>intro _<;>try(exfalso;omega))|refine stq ?_)
 all_goals(conv=>whnf)
 refine aH.by aB T0 (λk:Nat=>⟨tmp 26 [(0,bB a),(1,bB a),(5,i64 (k:Int))],⟨0,[]⟩⟩) (λk=>k<=a.length) (λk=>a.length-k) 0 om ?_ ?_
 ·exact lq0
 intro k h3;by_cases hk:k<a.length
 ·repeat' ((conv=>whnf);first|exact kQ|(refine bk ?_ ?_<;>intro _<;>try(exfalso;omega))|refine stq ?_|refine ac.by aB T0 [0,0,3,7,0,0,48,112,255] (by kernel_rfl) ?_|refine Idx.atS (sz:=2) (c:=bX) (λ_=>rfl) k om om ?_|(split<;>rename_i heq<;>first|(obtain rfl:=Option.some.inj (ni.symm.trans heq))|exact absurd (ni.symm.trans heq) si))
  all_goals(conv=>whnf)
  refine⟨k+1,by omega,by omega,?_⟩;exact lq0
 ·repeat' ((conv=>whnf);first|exact kQ|(refine bk ?_ ?_<;>intro _<;>try(exfalso;omega))|refine stq ?_)
  all_goals(conv=>whnf)
  exact aC.same rfl rfl
end
end Go.Proofs.YtpgcjpcenaefpaaGreatDoor
