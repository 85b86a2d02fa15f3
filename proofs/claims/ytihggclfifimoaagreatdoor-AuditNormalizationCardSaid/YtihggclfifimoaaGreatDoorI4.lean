/-
  Contracts over data: elements, entries and groups of a collation are checked.
-/
import Derived.Test.YtihggclfifimoaaGreatDoorNR
set_option linter.unusedSectionVars false
namespace Go.Proofs.YtihggclfifimoaaGreatDoor
open Go Go.Am Classical
set_option maxRecDepth 100000
section
set_option linter.unusedVariables false
theorem xI4.rdX {p:Prop}(h:p:=by first|exact Rd.same (aC _)|exact Rd.same (qs _)|fail):p:=h
theorem xI4.rbX {p:Prop}(h:p:=by first|exact Rb.cells (Rds.same (yk _)) rfl|fail):p:=h
open xI4
structure Elm where
 p:Int
 s:Int
 t:Int
 v:Bool
structure Ent where
 cs:List Int
 es:List Elm
abbrev elmC (e:Elm):List D:=[i64 e.p,i64 e.s,i64 e.t,boo e.v]
abbrev elms (l:List Elm):D:=lstS elmC l
abbrev entC (e:Ent):List D:=[aF e.cs,elms e.es]
theorem qs (l:List Elm):aL (elms l)=true:=jO (λ_=>rfl) l
theorem yk (e:Ent):aK (entC e)=true:=by simp[aK,aC,qs]
end
section
set_option linter.unusedVariables false
theorem spl {P:Program}{op:BinOp}{t:TypeId}{ox oy:Operand}{a b d:D}{K:D->Prop}(h:ba P op t ox oy a b=some d) (k:K d):(match ba P op t ox oy a b with|some d=>K d|none=>False):=by rw[h];exact k
end
section
set_option linter.unusedVariables false
theorem CV {P:Program}{t e:TypeId}{n:Nat}{k:IntKind}{ox oy:Operand}(h:P.underlying t=some (.array n e)) (he:P.underlying e=some (.int k)) (hs:av P (sizeOf e)=some 1) (hg:P.eqGuardType P.depth t=false) (us ws:List Int) (ha:us.length=n) (hb:ws.length=n) :
  ba P .eql t ox oy (.agg (us.map i64)) (.agg (ws.map i64))=some (boo (decide (us=ws))):=by
 have e1:av P (do eqGuard .eql t ox oy (.agg (fe us)) (.agg (fe ws));binOp .eql t (.agg (fe us)) (.agg (fe ws)))=some (.bool (decide (us=ws))):=by
  have e2:av P (Op.equalIn 10000 t (.agg (fe us)) (.agg (fe ws)))=some (decide (us=ws)):=oe (d:=9998) h he hs us ws ha hb;simp[eqGuard,binOp,bX,dq,hg,Op.equal,Op.maxDepth,e2,cS,nz]
 have e3:ba P .eql t ox oy (.agg (us.map i64)) (.agg (ws.map i64))=(match toV (.agg (us.map i64)),toV (.agg (ws.map i64)) with
  | some a,some b=>(match av P (do eqGuard .eql t ox oy a b;binOp .eql t a b) with|some r=>ofV r|none=>none)
  | _,_=>none):=rfl
 rw[e3];simp only[toV,np,kF];rw[e1];rfl
theorem arr2 {a b x y:Int}{ox oy:Operand}:ba Tryz.prog .eql 366 ox oy (.agg [i64 a,i64 b]) (.agg [i64 x,i64 y])=some (boo (decide ([a,b]=[x,y]))):=
 CV (k:=.i64) rfl rfl (by kernel_rfl) (by kernel_rfl) [a,b] [x,y] rfl rfl
def hcD (a b:Int):D:=match hc a b with|some w=>.tup [i64 w,boo true]|none=>.tup [i64 0,boo false]
set_option maxHeartbeats 1000000 in
theorem AK {a b:Int}:Pu Tryz.prog 341 [i64 a,i64 b] (hcD a b):=by
 have h1:=cu (c:=a);have h2:=cu (c:=b);have ka:=aj a;have kb:=aj b;have e1:∀ ox oy,ba Tryz.prog .eql 366 ox oy (.agg [i64 (hk a),i64 (hk b)]) (.agg [i64 1,i64 2])=some (boo (decide ([hk a,hk b]=[1,2]))):=λ_ _=>arr2
 have e2:∀ ox oy,ba Tryz.prog .eql 366 ox oy (.agg [i64 (hk a),i64 (hk b)]) (.agg [i64 4,i64 3])=some (boo (decide ([hk a,hk b]=[4,3]))):=λ_ _=>arr2
 by_cases c1:hk a=1∧hk b=2
 ·have ha:4352<=a∧a<=4370:=by omega
  have hb:4449<=b∧b<=4469:=by omega
  have hw1:IntKind.wrap .i64 ((a-4352)*21)=(a-4352)*21:=iv (fg om om);have hw2:IntKind.wrap .i64 ((IntKind.wrap .i64 ((a-4352)*21)+b-4449)*28)=((a-4352)*21+b-4449)*28:=by rw[hw1];exact iv (fg om om)
  rw[decide_eq_true (by rw[c1.1,c1.2])] at e1;rw[show hcD a b=.tup [i64 (44032+(21*(a-4352)+(b-4449))*28),boo true] by unfold hcD hc;rw[if_pos c1]];refine pv Tryz.func341 ?_;repeat' ((conv=>whnf);first|refine spl (e1 _ _) ?_|exact kQ|(refine bk ?_ ?_<;>intro _<;>try(exfalso;omega))|refine stq ?_|refine cp h1 ?_|refine cp h2 ?_|fail)
  all_goals(conv=>whnf)
  exact⟨.tup (.cons (.int om) (.cons (.same rfl) .nil))⟩
 ·rw[decide_eq_false (by intro h;injection h with h3 h4;injection h4 with h4 _;exact c1 ⟨h3,h4⟩)] at e1;by_cases c2:hk a=4∧hk b=3
  ·rw[decide_eq_true (by rw[c2.1,c2.2])] at e2;rw[show hcD a b=.tup [i64 (a+b-4519),boo true] by unfold hcD hc;rw[if_neg c1,if_pos c2]];refine pv Tryz.func341 ?_;repeat' ((conv=>whnf);first|refine spl (e2 _ _) ?_|refine spl (e1 _ _) ?_|exact kQ|(refine bk ?_ ?_<;>intro _<;>try(exfalso;omega))|refine stq ?_|refine cp h1 ?_|refine cp h2 ?_|fail)
   all_goals(conv=>whnf)
   exact⟨.tup (.cons (.int om) (.cons (.same rfl) .nil))⟩
  ·rw[decide_eq_false (by intro h;injection h with h3 h4;injection h4 with h4 _;exact c2 ⟨h3,h4⟩)] at e2;rw[show hcD a b=.tup [i64 0,boo false] by unfold hcD hc;rw[if_neg c1,if_neg c2]];refine pv Tryz.func341 ?_;repeat' ((conv=>whnf);first|refine spl (e2 _ _) ?_|refine spl (e1 _ _) ?_|exact kQ|(refine bk ?_ ?_<;>intro _<;>try(exfalso;omega))|refine stq ?_|refine cp h1 ?_|refine cp h2 ?_|fail)
   all_goals(conv=>whnf)
   exact⟨.tup (.cons (.int om) (.cons (.same rfl) .nil))⟩
end
end Go.Proofs.YtihggclfifimoaaGreatDoor
