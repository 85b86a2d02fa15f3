/-
  What the arguments of the statements of layer 35 read as: a pair of numbers, a job.
-/
import Derived.Test.YtbmdndckndnehaaGreatDoorJR
set_option linter.unusedSectionVars false
namespace Go.Proofs.YtbmdndckndnehaaGreatDoor
open Go Go.Am Go.ChangeShapes Go.WideShapes Go.ChangeAt Go.RowKit
set_option maxRecDepth 100000
section
variable [GT]
theorem zk {P:Program}{t:TypeId}(ht:P.underlying t=some .bool):av P t (λb:Bool=>[boo b]) (λ_=>True):=by
 intro H enc w sp fuel cs d ps h;obtain⟨b,h1,_⟩:=DataW.trod_bool ht h;subst h1;exact⟨b,trivial,VS.cons (by simp[V,cm]) VS.nil⟩
theorem I3 {P:Program}{t e:TypeId}(ht:P.underlying t=some (.array 2 e)){ok:Int->Prop}(he:av P e (λn:Int=>[i64 n]) ok) (hs:P.cellsOf e=1) (hs2:P.cellsOf t=2){H:Type}{enc:TypeId×Value->H}{W:World}{r:Reach}{base:Nat}{sp:Nat->Bool}{v:Value}{d:DataW H}{ps:List MemPlace}
  (hv:Value.okWide P W r base t v) (h:DataW.Trod enc P W 0 sp true t v d ps):∃ a b,ok a∧ok b∧V (all W) (.agg [i64 a,i64 b]) v:=by
 unfold Value.okWide at hv;rw[ht] at hv;obtain⟨cs,rfl,_⟩:=hv;obtain⟨fuel,h⟩:=h;obtain⟨xs,m,_,_,hl,hx,hel⟩:=DataW.trod_array ht h;have h0:=hel 0 om;have h1:=hel 1 om;rw[List.getElem?_eq_getElem om] at h0 h1;rw[hs] at h0 h1;obtain⟨a,a1,a2⟩:=he _ _ _ _ _ _ _ _ h0;obtain⟨b,b1,b2⟩:=he _ _ _ _ _ _ _ _ h1;refine⟨a,b,a1,b1,?_⟩;simp only[V];refine⟨cs.toList,by simp,?_⟩;have e2:cs.toList.length=2:=by rw[<-hs2];exact hl
 have e1:(Value.agg cs).cells.toList=cs.toList:=rfl;rw[e1] at a2 b2
 obtain⟨p,q,e3⟩:∃ p q,cs.toList=[p,q]:=by
  match hc:cs.toList,e2 with
  | [p,q],_=>exact⟨p,q,rfl⟩
 rw[e3] at a2 b2 ⊢;exact a2.append b2
theorem r_bool:av Tryz.prog 4 (λb:Bool=>[boo b]) (λ_=>True):=zk (by kernel_rfl)
abbrev jobC (x:Db×List Int×Int×Bool):List D:=dbC x.1++[aD x.2.1,i64 x.2.2.1,boo x.2.2.2]
theorem r_job:av Tryz.prog 57 jobC (λx=>x.1.ok∧x.2.1.length<=9223372036854775807∧-9223372036854775808<=x.2.2.1∧x.2.2.1<=9223372036854775807):=
 (av.struct (tot:=32) (Tryz.underlying57) (by kernel_rfl) (aX.cons (off:=0) (sz:=29) Cj rfl (by kernel_rfl) (aX.cons (sz:=1) oY rfl (by kernel_rfl) (aX.cons (sz:=1) kb rfl (by kernel_rfl) (aX.cons (sz:=1) r_bool rfl (by kernel_rfl) aX.nil))))).map (λx=>(x.1,x.2.1,x.2.2.1,x.2.2.2.1)) (λ_=>rfl) (λ_ h=>⟨h.1,h.2.1,h.2.2.1.1,h.2.2.1.2⟩)
end
end Go.Proofs.YtbmdndckndnehaaGreatDoor
