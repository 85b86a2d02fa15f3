/-
  What the statement's argument reads as; what is known of package-level variables when the call begins; a start that meets the row's condition.
-/
import Derived.Test.YtihggclfifimoaaGreatDoorRows
import Derived.Test.YtihggclfifimoaaGreatDoorYQ
import Derived.ProofKit
import Derived.LaidMore
import Derived.OpenShut
import Derived.Lay
import Derived.LaidSub
import Derived.HandedShaped
import Derived.Shelf.Vars
import Derived.Stop.Joined
set_option linter.unusedSectionVars false
namespace Go.Proofs.YtihggclfifimoaaGreatDoor
open Go Go.Am Go.ChangeShapes Go.WideShapes Go.ChangeAt Go.RowKit
set_option maxRecDepth 100000
set_option linter.unusedVariables false
theorem own:ownKnob Tryz.prog.godebug=Option.none:=by kernel_rfl
theorem F3:laidOutB Tryz.prog=true:=by kernel_rfl
abbrev q0:List (String×DataW Unit):=Rows.auditNormalizationRow.laid
theorem Bs:(Rows.laid_unicodetext_ordering_hangulRanges:DataW Unit)=.agg [.agg [.lit (.int .i64 4352),.lit (.int .i64 4370)],.agg [.lit (.int .i64 4449),.lit (.int .i64 4469)],.agg [.lit (.int .i64 4520),.lit (.int .i64 4546)],.agg [.lit (.int .i64 44032),.lit (.int .i64 55203)]]:=by kernel_rfl
theorem lI {H:Type}{enc:TypeId×Value->H}{w:World}{base:Nat}{sp:Nat->Bool}{held:Bool}{fuel:Nat}{cs:List Value}{a b:Int}{ps:List MemPlace}(h:DataW.trod enc Tryz.prog w base sp held fuel 201 cs=some (.agg [.lit (.int .i64 a),.lit (.int .i64 b)],ps)):cs=[.int .i64 a,.int .i64 b]:=by
 obtain⟨y0,y1,n,e,hl,h0,h1⟩:=trod_struct2 Tryz.underlying201 h;obtain⟨p,e0,x0,_⟩:=DataW.trod_int Tryz.underlying3 h0;obtain⟨q,e1,x1,_⟩:=DataW.trod_int Tryz.underlying3 h1;rw[x0,x1] at e;have e2:=(Prod.mk.inj e).1;simp only[DataW.agg.injEq,List.cons.injEq,DataW.lit.injEq,Lit.int.injEq,true_and,and_true] at e2;obtain⟨rfl,rfl⟩:=e2;have c1:Tryz.prog.cellsOf 3=1:=by kernel_rfl
 have c2:Tryz.prog.cellsOf 201=2:=by kernel_rfl
 rw[c2] at hl;simp only[c1] at e0 e1
 match cs,hl with
 | [u,v],_=>
  simp only[List.drop_zero,List.drop_succ_cons,List.take_succ_cons,List.take_zero,List.cons.injEq,and_true] at e0 e1;rw[e0,e1]
theorem yw {W:World}(h0:laidMetH Tryz.prog q0 W):∃ cs:List Value,cs=AL.map (λk=>.int .i64 k)∧∀ r,W.cell? ⟨gH,r,none⟩=cs[r]?:=by
 have h:laidMetH Tryz.prog [("unicodetext/ordering.hangulRanges",Rows.laid_unicodetext_ordering_hangulRanges)] W:=h0.filter (λx=>x.1 == "unicodetext/ordering.hangulRanges")
 rw[MakeChecks.laidMetH_plain _ _ _ (by kernel_rfl)] at h;obtain⟨ps,⟨g,t,cs,fuel,p,q,hg,ht,hv,hd,_,_⟩,_,_⟩:=h
 obtain rfl:=Option.some.inj ((show Tryz.prog.globalNamed "unicodetext/ordering.hangulRanges" = some gH by kernel_rfl).symm.trans hg)
 obtain rfl:=Option.some.inj ((show(Tryz.prog.globals[gH]?).map (·.type)=some 392 by kernel_rfl).symm.trans ht);rw[Bs] at hd;obtain⟨xs,m,_,ex,hn,hl,hel⟩:=DataW.trod_array Tryz.underlying392 hd;have c2:Tryz.prog.cellsOf 201=2:=by kernel_rfl
 have c8:Tryz.prog.cellsOf 392=8:=by kernel_rfl
 rw[c8] at hn;simp only[c2] at hel;have ex:=(Prod.mk.inj ex).1
 match xs,hl with
 | [(x0,p0),(x1,p1),(x2,p2),(x3,p3)],_=>
  simp only[List.map_cons,List.map_nil,DataW.agg.injEq,List.cons.injEq,and_true] at ex;obtain⟨rfl,rfl,rfl,rfl⟩:=ex;have k0:=lI (hel 0 om);have k1:=lI (hel 1 om);have k2:=lI (hel 2 om);have k3:=lI (hel 3 om);refine⟨cs.toList,?_,λr=>by rw[World.var?_cell hg hv r];simp⟩;generalize cs.toList=l at hn k0 k1 k2 k3
  match l,hn with
  | [a0,a1,a2,a3,a4,a5,a6,a7],_=>
   simp at k0 k1 k2 k3;simp[AL,k0,k1,k2,k3]
theorem Gn {w:World}{a:Addr}{v:Value}(h:w.cell? a=some v):a.block<w.heap.size:=by
 unfold World.cell? at h;split at h
 ·rename_i hb;exact(Array.getElem?_eq_some_iff.1 hb).1
 ·cases h
theorem inv_of {W:World}(hL:laidMetH Tryz.prog q0 W) (hs:W.ShapedOpen Tryz.prog):gtH.inv (all W):=by
 obtain⟨cs,rfl,h⟩:=yw hL;refine⟨Gn (h 0),λi hi=>?_⟩;rw[Nat.zero_add];show W.cell? ⟨gH,i,none⟩=_;rw[h i,List.getElem?_eq_getElem hi]
theorem qT {H:Type}{enc:TypeId×Value->H}{a:Assume}{C:Checked}{os:Os}{f:FuncId}{fn:Func}{s:ChangeSpec}{conds:List PathCond}{apart fresh handsOn again:Bool}{X:World->Array Value->Prop}
  (hX:∀ (w w':World) (args:Array Value),w.heap=w'.heap->X w args->X w' args)
  (own:ownKnob C.prog.godebug=none) (started:os.Started) (noInit:C.prog.inits.idxOf? f=none) (hfn:C.prog.funcs[f]?=some fn)
  (witness:∃ (w:World) (tape:Tape) (i:Input),w.os=os∧(w.forCall tape i).Shaped C.prog∧i.vars=[]∧Input.okWide C.prog (w.forCall tape i) .any w.heap.size f i ∧
   ((s.pre enc C.prog fn conds apart (w.forCall tape i).memory i.args∧X (w.forCall tape i).memory i.args)∧sizedMet enc C.prog fn (OpenSpec.ofChange s) apart (w.forCall tape i).memory i.args)∧a.holds C.prog (lone (Frame.enter C.prog f i.args .normal) [] (w.forCall tape i)))
  (contract:∀ (W:World) (base:Nat) (args:Array Value) (ds gs:List (DataW H)) (before:List MemPlace),
   (∀ (j:Nat) t v,fn.params[j]?=some t->args[j]?=some v->Value.okWide C.prog W .any base t v) ->
   DataW.Whole enc C.prog fn.params.toList s.vars apart W args.toList ds gs before->X W args->W.ShapedOpen C.prog ->
   Calls C.prog f args W λe W'=>∃ v,e=.returned v∧s.post enc C.prog fn apart fresh handsOn again W args v W') :
  ReturnsInHanded a C os f .any (λw args=>(s.pre enc C.prog fn conds apart w args∧X w args)∧sizedMet enc C.prog fn (OpenSpec.ofChange s) apart w args) (s.post enc C.prog fn apart fresh handsOn again):=by
 refine returnsInHanded_of_calls own started noInit witness ?_;intro w tape i _ hsh _ hok hpre hholds;obtain⟨_,_,_,fn',hfn',_,_,_,_,hval⟩:=hok;have e:fn'=fn:=Option.some.inj (hfn'.symm.trans hfn);subst e;obtain⟨⟨⟨ds,gs,before,hw,hc⟩,hx⟩,hz⟩:=hpre;have hw':=DataW.Whole.of_heap (w':=w.forCall tape i) (by rfl) hw;refine(contract (w.forCall tape i) w.heap.size i.args ds gs before hval hw' (hX _ _ _ (by rfl) hx) hsh).mono λe W' ⟨v,he,hp⟩=>?_
 subst he;exact ChangeSpec.post_blind hp
section
variable [GT]
theorem qW:bV Tryz.prog 3 (λn:Int=>[i64 n]) (λn=>-9223372036854775808<=n∧n<=9223372036854775807):=bV.i64 (by kernel_rfl)
theorem DD:bV Tryz.prog 29 (λl:List Int=>[aF l]) (λl=>l.length<=9223372036854775807):=
 (bV.slice (e:=3) (by kernel_rfl) qW (sz:=1) (by kernel_rfl) om).map id (λl=>by simp only[id,ge];rfl) (λ_ h=>h.1)
theorem r_str:bV Tryz.prog 9 (λs:Str=>[.str s]) (λs=>s.length<=9223372036854775807):=bV.str (by kernel_rfl)
theorem r_spn:bV Tryz.prog 215 spnC (λ_=>True):=
 (bV.struct (tot:=3) (Tryz.underlying215) (by kernel_rfl) (cH.cons (off:=0) (sz:=1) qW rfl (by kernel_rfl) (cH.cons (sz:=1) qW rfl (by kernel_rfl) (cH.cons (sz:=1) qW rfl (by kernel_rfl) cH.nil)))).map (λx=>⟨x.1,x.2.1,x.2.2.1⟩) (λ_=>rfl) (λ_ _=>trivial)
theorem r_spns:bV Tryz.prog 22 (λl:List Spn=>[bC l]) (λl=>l.length<=9223372036854775807):=
 (bV.slice (e:=215) (by kernel_rfl) r_spn (sz:=3) (by kernel_rfl) om).map id (λ_=>rfl) (λ_ h=>h.1)
theorem r_rng:bV Tryz.prog 201 bq (λ_=>True):=
 (bV.struct (tot:=2) (Tryz.underlying201) (by kernel_rfl) (cH.cons (off:=0) (sz:=1) qW rfl (by kernel_rfl) (cH.cons (sz:=1) qW rfl (by kernel_rfl) cH.nil))).map (λx=>⟨x.1,x.2.1⟩) (λ_=>rfl) (λ_ _=>trivial)
theorem r_rngs:bV Tryz.prog 24 (λl:List Rng=>[bD l]) (λl=>l.length<=9223372036854775807):=
 (bV.slice (e:=201) (by kernel_rfl) r_rng (sz:=2) (by kernel_rfl) om).map id (λ_=>rfl) (λ_ h=>h.1)
theorem r_set:bV Tryz.prog 26 (λl:List Rng=>[bD l]) (λl=>l.length<=9223372036854775807):=
 (bV.struct (tot:=1) (Tryz.underlying26) (by kernel_rfl) (cH.cons (off:=0) (sz:=1) r_rngs rfl (by kernel_rfl) cH.nil)).map (λx=>x.1) (λ_=>rfl) (λ_ h=>h.1)
theorem r_mpg:bV Tryz.prog 71 iM (λm=>m.to.length<=9223372036854775807∧m.tag.length<=9223372036854775807):=
 (bV.struct (tot:=3) (Tryz.underlying71) (by kernel_rfl) (cH.cons (off:=0) (sz:=1) qW rfl (by kernel_rfl) (cH.cons (sz:=1) DD rfl (by kernel_rfl) (cH.cons (sz:=1) r_str rfl (by kernel_rfl) cH.nil)))).map (λx=>⟨x.1,x.2.1,x.2.2.1⟩) (λ_=>rfl) (λ_ h=>⟨h.2.1,h.2.2.1⟩)
abbrev MpsOk (l:List Mpg):Prop:=l.length<=9223372036854775807∧∀ i (h:i<l.length),l[i].to.length<=9223372036854775807∧l[i].tag.length<=9223372036854775807
theorem r_mpgs:bV Tryz.prog 23 (λl:List Mpg=>[ag l]) MpsOk:=
 (bV.slice (e:=71) (by kernel_rfl) r_mpg (sz:=3) (by kernel_rfl) om).map id (λ_=>rfl) (λ_ h=>h)
theorem r_norm:bV Tryz.prog 28 nmC Nm.len:=
 (bV.struct (tot:=3) (Tryz.underlying28) (by kernel_rfl) (cH.cons (off:=0) (sz:=1) r_spns rfl (by kernel_rfl) (cH.cons (sz:=1) r_mpgs rfl (by kernel_rfl) (cH.cons (sz:=1) r_set rfl (by kernel_rfl) cH.nil)))).map (λx=>⟨x.1,x.2.1,x.2.2.1⟩) (λ_=>rfl) (λ_ h=>⟨h.1,h.2.1.1,h.2.2.1,h.2.1.2⟩)
end
noncomputable abbrev oG (os:Os):World:=World.laidAll Tryz.prog os q0
theorem r8 (os:Os) (args:Array Value):laidMetH Tryz.prog q0 ((oG os).forCall (λ_ _=>0) ⟨#[],args,[]⟩).memory:=by
 rw[MakeChecks.laidMetH_plain _ _ _ (by kernel_rfl)];exact laidMet_laidAll _ (by kernel_rfl) (by kernel_rfl)
theorem oF (os:Os) (args:Array Value):((oG os).forCall (λ_ _=>0) ⟨#[],args,[]⟩).Shaped Tryz.prog:=World.shaped_of_ZipB (by kernel_rfl) (by kernel_rfl)
end Go.Proofs.YtihggclfifimoaaGreatDoor
