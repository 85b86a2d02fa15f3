/-
  Contracts of functions over data: sorting few numbers.
-/
import Derived.Test.YtihggclfifimoaaGreatDoorC0
set_option linter.unusedSectionVars false
namespace Go.Proofs.YtihggclfifimoaaGreatDoor
open Go Go.Am Classical
set_option maxRecDepth 100000
section
variable [GT]
theorem Ho {n:Nat}(hn:n<=12):Pu Tryz.prog 189 [.v (.int .u64 n)] (i64 (([0,1,2,2,3,3,3,3,4,4,4,4,4]:List Int).getD n 0)):=by
 rcases(by omega:n=0∨n=1∨n=2∨n=3∨n=4∨n=5∨n=6∨n=7∨n=8∨n=9∨n=10∨n=11∨n=12) with rfl|rfl|rfl|rfl|rfl|rfl|rfl|rfl|rfl|rfl|rfl|rfl|rfl
 all_goals
  refine pv Tryz.func189 ?_;repeat' ((conv=>whnf);first|refine FB.mk (by decide) (by decide) ?_|exact kQ|(refine bk ?_ ?_<;>intro _<;>try(exfalso;omega))|refine stq ?_|(apply Cll.inl aA T0 Tryz.func313 rfl rfl ?_;rotate_left)|exact⟨Or.inr rfl,rfl,rfl⟩|refine Chk.mk (fg (by decide) (by decide)) ?_|fail)
  all_goals(conv=>whnf)
  exact aE.same rfl rfl
end
section
variable [GT]
structure Spn where
 lo:Int
 hi:Int
 val:Int
 deriving Inhabited
abbrev spnC (s:Spn):List D:=[i64 s.lo,i64 s.hi,i64 s.val]
abbrev bC (l:List Spn):D:=lstS spnC l
theorem aY (l:List Spn):aL (bC l)=true:=jO (λ_=>rfl) l
theorem lS {n:Int}:Pu Tryz.prog 157 [i64 n] (boo (decide (0<=n∧n<=1114111))):=by
 refine pv Tryz.func157 ?_;repeat' ((conv=>whnf);first|exact kQ|(refine bk ?_ ?_<;>intro _<;>try(exfalso;omega))|refine stq ?_)
 all_goals(conv=>whnf)
 all_goals first
  | exact aE.yes om
  | exact aE.no om
end
section
variable [GT]
end
section
theorem xQ3.rdX {p:Prop}(h:p:=by first|exact Rd.eqd (yQ rfl) (aC _)|fail):p:=h
theorem xQ3.rbX {p:Prop}(h:p:=by first|exact Rb.cells (Rds.eqs e2 (ik (λ_=>rfl))) rfl|exact Rb.cells (Rds.eqs (jY om (λi _=>by first|(by_cases h0:i=0<;>simp[h0,stL];done)|fail)) (ik (λ_=>rfl))) rfl|exact Rb.cells (Rds.eqs (jY om (λi hi=>by first|(by_cases h0:l.length<=i<;>simp[h0,stR];done)|fail)) (ik (λ_=>rfl))) rfl|fail):p:=h
open xQ3
variable [GT]
def nxt (nx:List (List Int)) (s c:Int):Int:=(nx.getD s.toNat []).getD c.toNat 0
def stL (nx:List (List Int)) (l:List Int):Nat->Int
 | 0=>0
 | k+1=>nxt nx (stL nx l k) (l.getD k 0)
def stR (nx:List (List Int)) (l:List Int):Nat->Int
 | 0=>0
 | j+1=>nxt nx (stR nx l j) (l.getD (l.length-1-j) 0)
def e8 (x y:Int):Int:=if x<y then -1 else if y<x then 1 else 0
theorem dZ {x y:Int}:Pu Tryz.prog 91 [i64 x,i64 y] (i64 (e8 x y)):=by
 refine pv Tryz.func91 ?_;repeat' ((conv=>whnf);first|exact kQ|(refine bk ?_ ?_<;>intro _<;>try(exfalso;omega))|refine stq ?_|refine cp GF ?_|fail)
 all_goals(conv=>whnf)
 all_goals exact aE.int (by unfold e8;(repeat' split)<;>omega)
abbrev asc (l:List Int):Prop:=l.Pairwise (· < ·)
theorem yQ {x:Int}{xs:List Int}{sz:Nat}(hs:sz=1):D.imm (((x::xs).length:Int)-1).toNat ((((x::xs).map i64).drop ((1:Int).toNat*sz)).take ((((x::xs).length:Int)-1).toNat*sz))=aF xs:=by
 subst hs;simp[lst];rw[kE si]
end
end Go.Proofs.YtihggclfifimoaaGreatDoor
