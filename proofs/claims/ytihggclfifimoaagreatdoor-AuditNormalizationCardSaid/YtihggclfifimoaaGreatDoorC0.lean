/-
  Contracts of functions over data: keys of sets.
-/
import Derived.Test.YtihggclfifimoaaGreatDoorChecked
import Derived.Test.YtihggclfifimoaaGreatDoorAmF
set_option linter.unusedSectionVars false
namespace Go.Proofs.YtihggclfifimoaaGreatDoor
open Go Go.Am Classical
set_option maxRecDepth 100000
section
theorem xC0.rbX {p:Prop}(h:p:=by first|exact Rb.cells (Rds.eqs e2 (ik (λ_=>rfl))) rfl|exact Rb.cells (Rds.eqs (jY om (λi _=>by first|(simp;done)|fail)) (ik (λ_=>rfl))) rfl|exact Rb.cells (Rds.eqs (zJ (by first|(simp[hb,hk];done)|fail) (λi _ hi=>by first|(simp only[show(i<k+1)=(i<k) from propext ⟨λh=>by omega,λh=>by omega⟩];done)|fail)) (ik (λ_=>rfl))) rfl|fail):p:=h
open xC0
variable [GT]
theorem aA:Tryz.prog.follows .mixedOrders=true:=by kernel_rfl
instance:Mx Tryz.prog:=⟨aA⟩
abbrev T0:TOk Tryz.prog (pH Tryz.prog):=td _
end
section
theorem xC1.rdX {p:Prop}(h:p:=by first|exact Rd.sl' rfl sim sim|fail):p:=h
theorem xC1.rbX {p:Prop}(h:p:=by first|exact Rb.cells (Rds.eqs (ur (x0::xs0) [32] rfl (by first|(simp only[rV,ge];done)|fail)) (aG (by intro _;rfl) _)) rfl|exact Rb.cells (Rds.eqs ((ur ((x::xs)++(x0::xs0)) [32] sim (ur (x::xs) (x0::xs0) rfl rfl)).trans (by first|(rw[e2];done)|fail)) (aG (by intro _;rfl) _)) rfl|fail):p:=h
open xC1
variable [GT]
abbrev nats (l:List Nat):D:=lst (λk:Nat=>i64 (k:Int)) l
theorem qr (l:List Nat):aL (nats l)=true:=gJ (λ_=>rfl) l
abbrev bytC (b:UInt8):List D:=[byt b]
theorem ur (s r:Str){n:Nat}{cs:List D}(hn:n=s.length) (e:cs=s.flatMap bytC):(cs.drop 0).take (n*1)++rV r=(s++r).flatMap bytC:=by
 subst e;subst hn;rw[List.drop_zero,kE (by simp[ge]),List.flatMap_append];simp only[rV,ge]
end
section
theorem xC2.rbX {p:Prop}(h:p:=by first|exact Rb.cells (Rds.eqs e3 (aN (λ_=>rfl) _)) rfl|exact Rb.cells (Rds.eqs (by first|(rw[<-h5];rfl;done)|fail) (aN (λ_=>rfl) _)) rfl|exact Rb.cells (Rds.eqs (by first|(rw[<-e3];done)|fail) (aN (λ_=>rfl) _)) rfl|fail):p:=h
open xC2
variable [GT]
theorem GF {x:Int}:Pu Tryz.prog 172 [i64 x] (boo false):=by
 refine pv Tryz.func172 ?_;repeat' ((conv=>whnf);first|exact kQ|(refine bk ?_ ?_<;>intro _<;>try(exfalso;omega))|refine stq ?_)
 all_goals(conv=>whnf)
 exact aE.same rfl rfl
end
section
variable [GT]
def wb (n:Int):Prop:=(65<=n∧n<=90)∨(97<=n∧n<=122)∨(48<=n∧n<=57)∨n=95
def allW (s:Str):Prop:=∀ i (h:i<s.length),wb (s[i].toNat:Int)
end
section
variable [GT]
theorem Ff {s:Str}(hs:s.length<=9223372036854775807):Pu Tryz.prog 413 [.str s] (boo (decide (s≠[]∧s.length<=32∧allW s))):=by
 refine pv Tryz.func413 ?_;repeat' ((conv=>whnf);first|exact kQ|(refine bk ?_ ?_<;>intro _<;>try(exfalso;omega))|refine stq ?_)
 refine aH.by aA T0 (λk:Nat=>⟨tmp 49 [(0,.str s),(3,i64 (k:Int))],⟨0,[]⟩⟩) (λk=>k<=s.length∧∀ i (h:i<s.length),i<k->wb (s[i].toNat:Int)) (λk=>s.length-k) 0 ⟨by omega,λ_ _ h=>by omega⟩ ?_ ?_
 ·exact lq0
 intro k ⟨h1,h2⟩;repeat' ((conv=>whnf);first|exact kQ|(refine bk ?_ ?_<;>intro _<;>try(exfalso;omega))|refine stq ?_)
 all_goals(conv=>whnf)
 all_goals first
  | exact aE.no (λhc=>absurd (hc.2.2 k om) (by unfold wb;omega))
  | exact aE.no (λhc=>by omega)
  | exact aE.no (λhc=>hc.1 (List.eq_nil_of_length_eq_zero om))
  | exact aE.yes ⟨by rintro rfl;simp at *,by omega,fp om h2⟩
  | (refine⟨k+1,⟨by omega,ad om h2 (by unfold wb;omega)⟩,by omega,?_⟩
     exact lq0)
def Db (s:Str):Prop:=s≠[]∧s.length<=32∧allW s
end
end Go.Proofs.YtihggclfifimoaaGreatDoor
