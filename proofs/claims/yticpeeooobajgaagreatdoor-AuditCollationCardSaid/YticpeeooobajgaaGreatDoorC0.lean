/-
  Contracts of functions over data: keys of sets.
-/
import Derived.Test.YticpeeooobajgaaGreatDoorChecked
import Derived.Test.YticpeeooobajgaaGreatDoorAmF
set_option linter.unusedSectionVars false
namespace Go.Proofs.YticpeeooobajgaaGreatDoor
section
open Go Go.Am Classical
set_option maxRecDepth 100000
theorem xC0.rbX {p:Prop}(h:p:=by first|exact Rb.cells (Rds.eqs e2 (gp (λ_=>rfl))) rfl|exact Rb.cells (Rds.eqs (iY om (λi _=>by first|(simp;done)|fail)) (gp (λ_=>rfl))) rfl|exact Rb.cells (Rds.eqs (v9 (by first|(simp[hb,hk];done)|fail) (λi _ hi=>by first|(simp only[show(i<k+1)=(i<k) from propext ⟨λh=>by omega,λh=>by omega⟩];done)|fail)) (gp (λ_=>rfl))) rfl|fail):p:=h
open xC0
variable [GT]
theorem aA:Tryz.prog.follows .mixedOrders=true:=by kernel_rfl
instance:Mx Tryz.prog:=⟨aA⟩
abbrev T0:TOk Tryz.prog (lP Tryz.prog):=rK _
end
section
open Go Go.Am Classical
set_option maxRecDepth 100000
theorem xC1.rdX {p:Prop}(h:p:=by first|exact Rd.sl' rfl sim sim|fail):p:=h
theorem xC1.rbX {p:Prop}(h:p:=by first|exact Rb.cells (Rds.eqs (sH (x0::xs0) [32] rfl (by first|(simp only[pX,aD];done)|fail)) (aC (by intro _;rfl) _)) rfl|exact Rb.cells (Rds.eqs ((sH ((x::xs)++(x0::xs0)) [32] sim (sH (x::xs) (x0::xs0) rfl rfl)).trans (by first|(rw[e2];done)|fail)) (aC (by intro _;rfl) _)) rfl|fail):p:=h
open xC1
variable [GT]
abbrev nats (l:List Nat):D:=lst (λk:Nat=>i64 (k:Int)) l
theorem ol (l:List Nat):aL (nats l)=true:=fc (λ_=>rfl) l
abbrev bytC (b:UInt8):List D:=[byt b]
theorem sH (s r:Str){n:Nat}{cs:List D}(hn:n=s.length) (e:cs=s.flatMap bytC):(cs.drop 0).take (n*1)++pX r=(s++r).flatMap bytC:=by
 subst e;subst hn;rw[List.drop_zero,kE (by simp[aD]),List.flatMap_append];simp only[pX,aD]
end
section
open Go Go.Am Classical
set_option maxRecDepth 100000
theorem xC2.rbX {p:Prop}(h:p:=by first|exact Rb.cells (Rds.eqs e3 (aN (λ_=>rfl) _)) rfl|exact Rb.cells (Rds.eqs (by first|(rw[<-h5];rfl;done)|fail) (aN (λ_=>rfl) _)) rfl|exact Rb.cells (Rds.eqs (by first|(rw[<-e3];done)|fail) (aN (λ_=>rfl) _)) rfl|fail):p:=h
open xC2
variable [GT]
theorem Cj {x:Int}:Pu Tryz.prog 154 [i64 x] (boo false):=by
 refine pv Tryz.func154 ?_;repeat' ((conv=>whnf);first|exact kQ|(refine bk ?_ ?_<;>intro _<;>try(exfalso;omega))|refine stq ?_)
 all_goals(conv=>whnf)
 exact aI.same rfl rfl
end
section
open Go Go.Am Classical
set_option maxRecDepth 100000
variable [GT]
theorem Ds {n:Nat}(hn:n<=12):Pu Tryz.prog 179 [.v (.int .u64 n)] (i64 (([0,1,2,2,3,3,3,3,4,4,4,4,4]:List Int).getD n 0)):=by
 rcases(by omega:n=0∨n=1∨n=2∨n=3∨n=4∨n=5∨n=6∨n=7∨n=8∨n=9∨n=10∨n=11∨n=12) with rfl|rfl|rfl|rfl|rfl|rfl|rfl|rfl|rfl|rfl|rfl|rfl|rfl
 all_goals
  refine pv Tryz.func179 ?_;repeat' ((conv=>whnf);first|refine Bn.mk (by decide) (by decide) ?_|exact kQ|(refine bk ?_ ?_<;>intro _<;>try(exfalso;omega))|refine stq ?_|(apply Cll.inl aA T0 Tryz.func292 rfl rfl ?_;rotate_left)|exact⟨Or.inr rfl,rfl,rfl⟩|refine Chk.mk (gM (by decide) (by decide)) ?_|fail)
  all_goals(conv=>whnf)
  exact aI.same rfl rfl
end
section
open Go Go.Am Classical
set_option maxRecDepth 100000
variable [GT]
def wb (n:Int):Prop:=(65<=n∧n<=90)∨(97<=n∧n<=122)∨(48<=n∧n<=57)∨n=95
def allW (s:Str):Prop:=∀ i (h:i<s.length),wb (s[i].toNat:Int)
end
section
open Go Go.Am Classical
set_option maxRecDepth 100000
variable [GT]
def AJ (s:Str):Prop:=s≠[]∧s.length<=32∧allW s
end
section
open Go Go.Am Classical
set_option maxRecDepth 100000
variable [GT]
end
section
open Go Go.Am Classical
set_option maxRecDepth 100000
theorem xQ3.rdX {p:Prop}(h:p:=by first|exact Rd.eqd (u9 rfl) (aG _)|fail):p:=h
theorem xQ3.rbX {p:Prop}(h:p:=by first|exact Rb.cells (Rds.eqs e2 (gp (λ_=>rfl))) rfl|exact Rb.cells (Rds.eqs (iY om (λi _=>by first|(by_cases h0:i=0<;>simp[h0,stL];done)|fail)) (gp (λ_=>rfl))) rfl|exact Rb.cells (Rds.eqs (iY om (λi hi=>by first|(by_cases h0:l.length<=i<;>simp[h0,stR];done)|fail)) (gp (λ_=>rfl))) rfl|fail):p:=h
open xQ3
variable [GT]
def nxt (nx:List (List Int)) (s c:Int):Int:=(nx.getD s.toNat []).getD c.toNat 0
def stL (nx:List (List Int)) (l:List Int):Nat->Int
 | 0=>0
 | k+1=>nxt nx (stL nx l k) (l.getD k 0)
def stR (nx:List (List Int)) (l:List Int):Nat->Int
 | 0=>0
 | j+1=>nxt nx (stR nx l j) (l.getD (l.length-1-j) 0)
def dF (x y:Int):Int:=if x<y then -1 else if y<x then 1 else 0
theorem cq {x y:Int}:Pu Tryz.prog 73 [i64 x,i64 y] (i64 (dF x y)):=by
 refine pv Tryz.func73 ?_;repeat' ((conv=>whnf);first|exact kQ|(refine bk ?_ ?_<;>intro _<;>try(exfalso;omega))|refine stq ?_|refine cp Cj ?_|fail)
 all_goals(conv=>whnf)
 all_goals exact aI.int (by unfold dF;(repeat' split)<;>omega)
theorem u9 {x:Int}{xs:List Int}{sz:Nat}(hs:sz=1):D.imm (((x::xs).length:Int)-1).toNat ((((x::xs).map i64).drop ((1:Int).toNat*sz)).take ((((x::xs).length:Int)-1).toNat*sz))=aE xs:=by
 subst hs;simp[lst];rw[kE si]
end
end Go.Proofs.YticpeeooobajgaaGreatDoor
