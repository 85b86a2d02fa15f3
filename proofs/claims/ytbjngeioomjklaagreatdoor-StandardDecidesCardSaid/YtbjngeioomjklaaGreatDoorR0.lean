/-
  What the statements' arguments read as; what is known of package-level variables when a call begins; a start that meets the rows' condition.
-/
import Derived.Test.YtbjngeioomjklaaGreatDoorRows
import Derived.Test.YtbjngeioomjklaaGreatDoorD0
import Derived.Test.YtbjngeioomjklaaGreatDoorAmD
import Derived.ProofKit
import Derived.LaidMore
import Derived.OpenShut
import Derived.Lay
import Derived.LaidSub
import Derived.HandedShaped
import Derived.Shelf.Vars
import Derived.Stop.Joined
namespace Go.Proofs.YtbjngeioomjklaaGreatDoor
open Go Go.Am Go.ChangeShapes Go.WideShapes Go.ChangeAt Go.RowKit
set_option maxRecDepth 100000
set_option linter.unusedSectionVars false
theorem own:ownKnob Tryz.prog.godebug=Option.none:=by kernel_rfl
theorem laidOut:laidOutB Tryz.prog=true:=by kernel_rfl
abbrev laidL:List (String×DataW Unit):=Rows.standardTextsRow.laid
theorem ascii_data:(Rows.laid_strings_asciiSpace:DataW Unit)=.agg (asciiN.map fun n:Nat=>.lit (.int .u8 (n:Int))):=by kernel_rfl
theorem ascii_cell {W:World}(h0:laidMetH Tryz.prog laidL W) (r:Nat) (hr:r < 256):W.cell? ⟨gA,r,none⟩=some (.int .u8 ((asciiN.getD r 0:Nat):Int)):=by
 have h:laidMetH Tryz.prog [("strings.asciiSpace",Rows.laid_strings_asciiSpace)] W:=h0.filter (fun x=>x.1 == "strings.asciiSpace")
 rw [MakeChecks.laidMetH_plain _ _ _ (by kernel_rfl)] at h
 obtain ⟨ps,⟨g,t,cs,fuel,p,q,hg,ht,hv,hd,_,_⟩,_,_⟩:=h
 obtain rfl:=Option.some.inj ((show Tryz.prog.globalNamed "strings.asciiSpace" = some gA by kernel_rfl).symm.trans hg)
 obtain rfl:=Option.some.inj ((show (Tryz.prog.globals[gA]?).map (·.type)=some 125 by kernel_rfl).symm.trans ht)
 rw [ascii_data] at hd
 obtain ⟨xs,m,_,ex,_,hl,hel⟩:=DataW.trod_array Tryz.underlying125 hd
 have c5:Tryz.prog.cellsOf 5=1:=by kernel_rfl
 have hE:=hel r hr
 rw [c5,Nat.mul_one,List.getElem?_eq_getElem (by omega)] at hE
 obtain ⟨z,e1,e2,_⟩:=DataW.trod_int Tryz.underlying5 hE
 have hlen:asciiN.length=256:=by kernel_rfl
 have e3:(xs.map (·.1))=asciiN.map fun n:Nat=>.lit (.int .u8 (n:Int)):=(DataW.agg.inj (Prod.mk.inj ex).1).symm
 have e4:(xs.map (·.1))[r]?=(asciiN.map fun n:Nat=>(DataW.lit (.int .u8 (n:Int)):DataW Unit))[r]?:=by rw [e3]
 rw [List.getElem?_map,List.getElem?_map,List.getElem?_eq_getElem (by omega:r < xs.length),List.getElem?_eq_getElem (by omega:r < asciiN.length),e2] at e4
 have hz:z=((asciiN.getD r 0:Nat):Int):=by
  simp only [Option.map_some,Option.some.injEq,DataW.lit.injEq,Lit.int.injEq,true_and] at e4
  rw [e4,List.getD,List.getElem?_eq_getElem (by omega:r < asciiN.length)];rfl
 rw [World.var?_cell hg hv r,← hz]
 have:cs.toList[r]?=some (.int .u8 z):=by
  have h0:((cs.toList.drop r).take 1)[0]?=some (.int .u8 z):=by rw [e1];rfl
  simpa using h0
 simpa using this
theorem maxLen_cell {W:World}(h:W.ShapedOpen Tryz.prog):∃ m,W.cell? ⟨gM,0,none⟩=some (.int .i64 m):=
 cell_of_shapedOpen_int (t:=3) (zero:=#[.int .i64 0]) h (of_decide_eq_true (by kernel_rfl)) (by kernel_rfl) rfl (by kernel_rfl) (by kernel_rfl) Tryz.underlying3
theorem cell_lt {w:World}{a:Addr}{v:Value}(h:w.cell? a=some v):a.block < w.heap.size:=by
 unfold World.cell? at h
 split at h
 ·rename_i hb;exact (Array.getElem?_eq_some_iff.1 hb).1
 ·cases h
theorem inv_of {W:World}(hL:laidMetH Tryz.prog laidL W) (hs:W.ShapedOpen Tryz.prog):gtR.inv (all W):=by
 obtain ⟨m,hm⟩:=maxLen_cell hs
 have h0:=ascii_cell hL
 refine ⟨m,cell_lt (h0 0 (by omega)),fun i hi=>?_,cell_lt hm,fun i hi=>?_⟩
 ·have hlen:asciiN.length=256:=by kernel_rfl
  have hi':i < asciiN.length:=by simpa [asciiV] using hi
  rw [Nat.zero_add]
  show W.cell? ⟨gA,i,none⟩=_
  rw [h0 i (by omega)]
  simp [asciiV,List.getD,hi']
 ·have:i=0:=by simpa using hi
  subst this
  exact hm
theorem returns_shaped {H:Type}{enc:TypeId×Value→H}{a:Assume}{C:Checked}{os:Os}{f:FuncId}{fn:Func}{s:ChangeSpec}{conds:List PathCond}{apart fresh handsOn again:Bool}{X:World→Array Value→Prop}
  (hX:∀ (w w':World) (args:Array Value),w.heap=w'.heap→X w args→X w' args)
  (own:ownKnob C.prog.godebug=none) (started:os.Started) (noInit:C.prog.inits.idxOf? f=none) (hfn:C.prog.funcs[f]?=some fn)
  (witness:∃ (w:World) (tape:Tape) (i:Input),w.os=os∧(w.forCall tape i).Shaped C.prog∧i.vars=[]∧Input.okWide C.prog (w.forCall tape i) .any w.heap.size f i ∧
   ((s.pre enc C.prog fn conds apart (w.forCall tape i).memory i.args∧X (w.forCall tape i).memory i.args)∧sizedMet enc C.prog fn (OpenSpec.ofChange s) apart (w.forCall tape i).memory i.args)∧a.holds C.prog (lone (Frame.enter C.prog f i.args .normal) [] (w.forCall tape i)))
  (contract:∀ (W:World) (base:Nat) (args:Array Value) (ds gs:List (DataW H)) (before:List MemPlace),
   (∀ (j:Nat) t v,fn.params[j]?=some t→args[j]?=some v→Value.okWide C.prog W .any base t v) →
   DataW.Whole enc C.prog fn.params.toList s.vars apart W args.toList ds gs before→X W args→W.ShapedOpen C.prog →
   Calls C.prog f args W fun e W'=>∃ v,e=.returned v∧s.post enc C.prog fn apart fresh handsOn again W args v W') :
  ReturnsInHanded a C os f .any (fun w args=>(s.pre enc C.prog fn conds apart w args∧X w args)∧sizedMet enc C.prog fn (OpenSpec.ofChange s) apart w args) (s.post enc C.prog fn apart fresh handsOn again):=by
 refine returnsInHanded_of_calls own started noInit witness ?_
 intro w tape i _ hsh _ hok hpre hholds
 obtain ⟨_,_,_,fn',hfn',_,_,_,_,hval⟩:=hok
 have e:fn'=fn:=Option.some.inj (hfn'.symm.trans hfn)
 subst e
 obtain ⟨⟨⟨ds,gs,before,hw,hc⟩,hx⟩,hz⟩:=hpre
 have hw':=DataW.Whole.of_heap (w':=w.forCall tape i) (by rfl) hw
 refine (contract (w.forCall tape i) w.heap.size i.args ds gs before hval hw' (hX _ _ _ (by rfl) hx) hsh).mono fun e W' ⟨v,he,hp⟩=>?_
 subst he
 exact ChangeSpec.post_blind hp
section
variable [GT]
theorem r_int:Reads Tryz.prog 3 (fun n:Int=>[i64 n]) (fun n=>-9223372036854775808≤n∧n≤9223372036854775807):=Reads.i64 (by kernel_rfl)
theorem r_ints:Reads Tryz.prog 33 (fun l:List Int=>[ints l]) (fun l=>l.length≤9223372036854775807):=
 (Reads.slice (e:=3) (by kernel_rfl) r_int (sz:=1) (by kernel_rfl) (by omega)).map id (fun l=>by simp only [id,flat_one];rfl) (fun _ h=>h.1)
theorem arg_i64 {t:TypeId}(ht:Tryz.prog.underlying t=some (.int .i64)){H:Type}{enc:TypeId×Value→H}{W:World}{r:Reach}{base:Nat}{sp:Nat→Bool}{v:Value}{d:DataW H}{ps:List MemPlace}
  (hv:Value.okWide Tryz.prog W r base t v) (h:DataW.Trod enc Tryz.prog W 0 sp true t v d ps):∃ n:Int,v=.int .i64 n∧V (all W) (i64 n) v:=by
 obtain ⟨n,rfl,_⟩:=open_int ht hv h
 exact ⟨n,rfl,by simp [V,free]⟩
end
noncomputable abbrev laidWorld (os:Os):World:=World.laidAll Tryz.prog os laidL
theorem laidWorld_met (os:Os) (args:Array Value):laidMetH Tryz.prog laidL ((laidWorld os).forCall (fun _ _=>0) ⟨#[],args,[]⟩).memory:=by
 rw [MakeChecks.laidMetH_plain _ _ _ (by kernel_rfl)]
 exact laidMet_laidAll _ (by kernel_rfl) (by kernel_rfl)
theorem laidWorld_shaped (os:Os) (args:Array Value):((laidWorld os).forCall (fun _ _=>0) ⟨#[],args,[]⟩).Shaped Tryz.prog:=World.shaped_of_ZipB (by kernel_rfl) (by kernel_rfl)
end Go.Proofs.YtbjngeioomjklaaGreatDoor
