/-
  What the statements' arguments read as; what is known of package-level variables when a call begins; a start that meets the rows' condition.
-/
import Derived.Test.YtlimkdlhldlolaaGreatDoorRows
import Derived.Test.YtlimkdlhldlolaaGreatDoorD0
import Derived.Test.YtlimkdlhldlolaaGreatDoorG0
import Derived.ProofKit
import Derived.LaidMore
import Derived.OpenShut
import Derived.Lay
import Derived.LaidSub
import Derived.HandedShaped
import Derived.Shelf.Vars
import Derived.Stop.Joined
set_option linter.unusedSectionVars false
namespace Go.Proofs.YtlimkdlhldlolaaGreatDoor
open Go Go.Am Go.ChangeShapes Go.WideShapes Go.ChangeAt Go.RowKit
set_option maxRecDepth 100000
theorem own:ownKnob Tryz.prog.godebug=Option.none:=by kernel_rfl
theorem IE:laidOutB Tryz.prog=true:=by kernel_rfl
abbrev q9:List (String×DataW Unit):=Rows.wrapBestRow.laid
theorem AQ:(Rows.laid_strings_asciiSpace:DataW Unit)=.agg (fr.map λn:Nat=>.lit (.int .u8 (n:Int))):=by kernel_rfl
theorem AR {W:World}(h0:laidMetH Tryz.prog q9 W) (r:Nat) (hr:r<256):W.cell? ⟨gA,r,none⟩=some (.int .u8 ((fr.getD r 0:Nat):Int)):=by
 have h:laidMetH Tryz.prog [("strings.asciiSpace",Rows.laid_strings_asciiSpace)] W:=h0.filter (λx=>x.1 == "strings.asciiSpace")
 rw[MakeChecks.laidMetH_plain _ _ _ (by kernel_rfl)] at h;obtain⟨ps,⟨g,t,cs,fuel,p,q,hg,ht,hv,hd,_,_⟩,_,_⟩:=h
 obtain rfl:=Option.some.inj ((show Tryz.prog.globalNamed "strings.asciiSpace" = some gA by kernel_rfl).symm.trans hg)
 obtain rfl:=Option.some.inj ((show(Tryz.prog.globals[gA]?).map (·.type)=some 289 by kernel_rfl).symm.trans ht);rw[AQ] at hd;obtain⟨xs,m,_,ex,_,hl,hel⟩:=DataW.trod_array Tryz.underlying289 hd;have c5:Tryz.prog.cellsOf 5=1:=by kernel_rfl
 have hE:=hel r hr;rw[c5,Nat.mul_one,List.getElem?_eq_getElem om] at hE;obtain⟨z,e1,e2,_⟩:=DataW.trod_int Tryz.underlying5 hE;have hlen:fr.length=256:=by kernel_rfl
 have e3:(xs.map (·.1))=fr.map λn:Nat=>.lit (.int .u8 (n:Int)):=(DataW.agg.inj (Prod.mk.inj ex).1).symm
 have e4:(xs.map (·.1))[r]?=(fr.map λn:Nat=>(DataW.lit (.int .u8 (n:Int)):DataW Unit))[r]?:=by rw[e3]
 rw[List.getElem?_map,List.getElem?_map,List.getElem?_eq_getElem (by omega:r<xs.length),List.getElem?_eq_getElem (by omega:r<fr.length),e2] at e4
 have hz:z=((fr.getD r 0:Nat):Int):=by
  simp only[kF,kA,DataW.lit.injEq,Lit.int.injEq,true_and] at e4;rw[e4,List.getD,List.getElem?_eq_getElem (by omega:r<fr.length)];rfl
 rw[World.var?_cell hg hv r,<-hz]
 have:cs.toList[r]?=some (.int .u8 z):=by
  have h0:((cs.toList.drop r).take 1)[0]?=some (.int .u8 z):=by rw[e1];rfl
  simpa using h0
 simpa using this
theorem xT {W:World}(h:W.ShapedOpen Tryz.prog):∃ m,W.cell? ⟨gM,0,none⟩=some (.int .i64 m):=
 cell_of_shapedOpen_int (t:=3) (zero:=#[.int .i64 0]) h (of_decide_eq_true (by kernel_rfl)) (by kernel_rfl) rfl (by kernel_rfl) (by kernel_rfl) Tryz.underlying3
theorem Bm {w:World}{a:Addr}{v:Value}(h:w.cell? a=some v):a.block<w.heap.size:=by
 unfold World.cell? at h;split at h
 .rename_i hb;exact(Array.getElem?_eq_some_iff.1 hb).1
 .cases h
theorem inv_of {W:World}(hL:laidMetH Tryz.prog q9 W) (hs:W.ShapedOpen Tryz.prog):gtR.inv (all W):=by
 obtain⟨m,hm⟩:=xT hs;have h0:=AR hL;refine⟨m,Bm (h0 0 om),λi hi=>?_,Bm hm,λi hi=>?_⟩
 .have hlen:fr.length=256:=by kernel_rfl
  have hi':i<fr.length:=by simpa [vr] using hi
  rw[Nat.zero_add];show W.cell? ⟨gA,i,none⟩=_;rw[h0 i om];simp[vr,List.getD,hi']
 .have:i=0:=by simpa using hi
  subst this;exact hm
theorem qS {H:Type}{enc:TypeId×Value->H}{a:Assume}{C:Checked}{os:Os}{f:FuncId}{fn:Func}{s:ChangeSpec}{conds:List PathCond}{apart fresh handsOn again:Bool}{X:World->Array Value->Prop}
  (hX:∀ (w w':World) (args:Array Value),w.heap=w'.heap->X w args->X w' args)
  (own:ownKnob C.prog.godebug=none) (started:os.Started) (noInit:C.prog.inits.idxOf? f=none) (hfn:C.prog.funcs[f]?=some fn)
  (witness:∃ (w:World) (tape:Tape) (i:Input),w.os=os/\(w.forCall tape i).Shaped C.prog/\i.vars=[]/\Input.okWide C.prog (w.forCall tape i) .any w.heap.size f i /\
   ((s.pre enc C.prog fn conds apart (w.forCall tape i).memory i.args/\X (w.forCall tape i).memory i.args)/\sizedMet enc C.prog fn (OpenSpec.ofChange s) apart (w.forCall tape i).memory i.args)/\a.holds C.prog (lone (Frame.enter C.prog f i.args .normal) [] (w.forCall tape i)))
  (contract:∀ (W:World) (base:Nat) (args:Array Value) (ds gs:List (DataW H)) (before:List MemPlace),
   (∀ (j:Nat) t v,fn.params[j]?=some t->args[j]?=some v->Value.okWide C.prog W .any base t v) ->
   DataW.Whole enc C.prog fn.params.toList s.vars apart W args.toList ds gs before->X W args->W.ShapedOpen C.prog ->
   Calls C.prog f args W λe W'=>∃ v,e=.returned v/\s.post enc C.prog fn apart fresh handsOn again W args v W') :
  ReturnsInHanded a C os f .any (λw args=>(s.pre enc C.prog fn conds apart w args/\X w args)/\sizedMet enc C.prog fn (OpenSpec.ofChange s) apart w args) (s.post enc C.prog fn apart fresh handsOn again):=by
 refine returnsInHanded_of_calls own started noInit witness ?_;intro w tape i _ hsh _ hok hpre hholds;obtain⟨_,_,_,fn',hfn',_,_,_,_,hval⟩:=hok;have e:fn'=fn:=Option.some.inj (hfn'.symm.trans hfn);subst e;obtain⟨⟨⟨ds,gs,before,hw,hc⟩,hx⟩,hz⟩:=hpre;have hw':=DataW.Whole.of_heap (w':=w.forCall tape i) (by rfl) hw;refine(contract (w.forCall tape i) w.heap.size i.args ds gs before hval hw' (hX _ _ _ (by rfl) hx) hsh).mono λe W' ⟨v,he,hp⟩=>?_
 subst he;exact ChangeSpec.post_blind hp
section
variable [GT]
theorem mw:bC Tryz.prog 3 (λn:Int=>[i64 n]) (λn=>-9223372036854775808<=n/\n<=9223372036854775807):=bC.i64 (by kernel_rfl)
theorem Ee:bC Tryz.prog 40 (λl:List Int=>[aC l]) (λl=>l.length<=9223372036854775807):=
 (bC.slice (e:=3) (by kernel_rfl) mw (sz:=1) (by kernel_rfl) om).map id (λl=>by simp only[id,aN];rfl) (λ_ h=>h.1)
theorem I2 {t:TypeId}(ht:Tryz.prog.underlying t=some (.int .i64)){H:Type}{enc:TypeId×Value->H}{W:World}{r:Reach}{base:Nat}{sp:Nat->Bool}{v:Value}{d:DataW H}{ps:List MemPlace}
  (hv:Value.okWide Tryz.prog W r base t v) (h:DataW.Trod enc Tryz.prog W 0 sp true t v d ps):∃ n:Int,(-9223372036854775808<=n/\n<=9223372036854775807)/\V (all W) (i64 n) v:=by
 obtain⟨n,rfl,_,_,hw⟩:=open_int ht hv h
 have hw' : -9223372036854775808<=n/\n<=9223372036854775807:=by
  simp only[Lit.wf,IntKind.min,IntKind.max,IntKind.signed,IntKind.bits,kC] at hw;simp at hw;omega
 exact⟨n,hw',by simp[V,co]⟩
end
section
variable [GT]
theorem JT:bC Tryz.prog 9 (λs:Str=>[.str s]) (λs=>s.length<=9223372036854775807):=bC.str (by kernel_rfl)
theorem r_strs:bC Tryz.prog 24 (λl:List Str=>[Am.strs l]) (λl=>l.length<=9223372036854775807/\long l):=
 (bC.slice (e:=9) (by kernel_rfl) JT (sz:=1) (by kernel_rfl) om).map id (λl=>by simp only[id,aN];rfl) (λ_ h=>h)
theorem r_spn:bC Tryz.prog 82 EO (λ_=>True):=
 (bC.struct (tot:=3) (Tryz.underlying82) (by kernel_rfl) (af.cons (off:=0) (sz:=1) mw rfl (by kernel_rfl) (af.cons (sz:=1) mw rfl (by kernel_rfl) (af.cons (sz:=1) mw rfl (by kernel_rfl) af.nil)))).map (λx=>⟨x.1,x.2.1,x.2.2.1⟩) (λ_=>rfl) (λ_ _=>trivial)
theorem Ed:bC Tryz.prog 25 (λl:List Spn=>[cg l]) (λl=>l.length<=9223372036854775807):=
 (bC.slice (e:=82) (by kernel_rfl) r_spn (sz:=3) (by kernel_rfl) om).map id (λ_=>rfl) (λ_ h=>h.1)
theorem qV:bC Tryz.prog 27 prpC Prp.ok:=
 (bC.struct (tot:=2) (Tryz.underlying27) (by kernel_rfl) (af.cons (off:=0) (sz:=1) r_strs rfl (by kernel_rfl) (af.cons (sz:=1) Ed rfl (by kernel_rfl) af.nil))).map (λx=>⟨x.1,x.2.1⟩) (λ_=>rfl) (λ_ h=>⟨h.1.1,h.1.2,h.2.1⟩)
theorem r_rng:bC Tryz.prog 54 bm (λ_=>True):=
 (bC.struct (tot:=2) (Tryz.underlying54) (by kernel_rfl) (af.cons (off:=0) (sz:=1) mw rfl (by kernel_rfl) (af.cons (sz:=1) mw rfl (by kernel_rfl) af.nil))).map (λx=>⟨x.1,x.2.1⟩) (λ_=>rfl) (λ_ _=>trivial)
theorem r_rngs:bC Tryz.prog 29 (λl:List Rng=>[ax l]) (λl=>l.length<=9223372036854775807):=
 (bC.slice (e:=54) (by kernel_rfl) r_rng (sz:=2) (by kernel_rfl) om).map id (λ_=>rfl) (λ_ h=>h.1)
theorem tH:bC Tryz.prog 31 (λl:List Rng=>[ax l]) (λl=>l.length<=9223372036854775807):=
 (bC.struct (tot:=1) (Tryz.underlying31) (by kernel_rfl) (af.cons (off:=0) (sz:=1) r_rngs rfl (by kernel_rfl) af.nil)).map (λx=>x.1) (λ_=>rfl) (λ_ h=>h.1)
theorem r_mpg:bC Tryz.prog 88 iu (λm=>m.to.length<=9223372036854775807/\m.tag.length<=9223372036854775807):=
 (bC.struct (tot:=3) (Tryz.underlying88) (by kernel_rfl) (af.cons (off:=0) (sz:=1) mw rfl (by kernel_rfl) (af.cons (sz:=1) Ee rfl (by kernel_rfl) (af.cons (sz:=1) JT rfl (by kernel_rfl) af.nil)))).map (λx=>⟨x.1,x.2.1,x.2.2.1⟩) (λ_=>rfl) (λ_ h=>⟨h.2.1,h.2.2.1⟩)
abbrev uO (l:List Mpg):Prop:=l.length<=9223372036854775807/\∀ i (h:i<l.length),l[i].to.length<=9223372036854775807/\l[i].tag.length<=9223372036854775807
theorem n6:bC Tryz.prog 28 (λl:List Mpg=>[cT l]) uO:=
 (bC.slice (e:=88) (by kernel_rfl) r_mpg (sz:=3) (by kernel_rfl) om).map id (λ_=>rfl) (λ_ h=>h)
theorem r_ver:bC Tryz.prog 23 (λx:Int×Int=>[i64 x.1,i64 x.2]) (λ_=>True):=
 (bC.struct (tot:=2) (Tryz.underlying23) (by kernel_rfl) (af.cons (off:=0) (sz:=1) mw rfl (by kernel_rfl) (af.cons (sz:=1) mw rfl (by kernel_rfl) af.nil))).map (λx=>(x.1,x.2.1)) (λ_=>rfl) (λ_ _=>trivial)
abbrev uN (l:List Rng):Prop:=l.length<=9223372036854775807
abbrev Jg:=List Spn×List Mpg×List Rng
theorem r_norm:bC Tryz.prog 33 (λx:Jg=>[cg x.1,cT x.2.1,ax x.2.2]) (λx=>x.1.length<=9223372036854775807/\uO x.2.1/\uN x.2.2):=
 (bC.struct (tot:=3) (Tryz.underlying33) (by kernel_rfl) (af.cons (off:=0) (sz:=1) Ed rfl (by kernel_rfl) (af.cons (sz:=1) n6 rfl (by kernel_rfl) (af.cons (sz:=1) tH rfl (by kernel_rfl) af.nil)))).map (λx=>(x.1,x.2.1,x.2.2.1)) (λ_=>rfl) (λ_ h=>⟨h.1,h.2.1,h.2.2.1⟩)
abbrev Jh:=List Mpg×List Mpg×List Mpg×List Mpg×List Rng×List Rng
theorem r_case:bC Tryz.prog 35 (λx:Jh=>[cT x.1,cT x.2.1,cT x.2.2.1,cT x.2.2.2.1,ax x.2.2.2.2.1,ax x.2.2.2.2.2]) (λx=>uO x.1/\uO x.2.1/\uO x.2.2.1/\uO x.2.2.2.1/\uN x.2.2.2.2.1/\uN x.2.2.2.2.2):=
 (bC.struct (tot:=6) (Tryz.underlying35) (by kernel_rfl) (af.cons (off:=0) (sz:=1) n6 rfl (by kernel_rfl) (af.cons (sz:=1) n6 rfl (by kernel_rfl) (af.cons (sz:=1) n6 rfl (by kernel_rfl) (af.cons (sz:=1) n6 rfl (by kernel_rfl) (af.cons (sz:=1) tH rfl (by kernel_rfl) (af.cons (sz:=1) tH rfl (by kernel_rfl) af.nil))))))).map (λx=>(x.1,x.2.1,x.2.2.1,x.2.2.2.1,x.2.2.2.2.1,x.2.2.2.2.2.1)) (λ_=>rfl) (λ_ h=>⟨h.1,h.2.1,h.2.2.1,h.2.2.2.1,h.2.2.2.2.1,h.2.2.2.2.2.1⟩)
abbrev Gq:=List Rng×List Rng×List Rng
theorem Hd:bC Tryz.prog 37 (λx:Gq=>[ax x.1,ax x.2.1,ax x.2.2]) (λx=>uN x.1/\uN x.2.1/\uN x.2.2):=
 (bC.struct (tot:=3) (Tryz.underlying37) (by kernel_rfl) (af.cons (off:=0) (sz:=1) tH rfl (by kernel_rfl) (af.cons (sz:=1) tH rfl (by kernel_rfl) (af.cons (sz:=1) tH rfl (by kernel_rfl) af.nil)))).map (λx=>(x.1,x.2.1,x.2.2.1)) (λ_=>rfl) (λ_ h=>⟨h.1,h.2.1,h.2.2.1⟩)
abbrev DbT:=(Int×Int)×Prp×Prp×Prp×Prp×Prp×Prp×Prp×Jg×Jh×Gq×List Mpg×Unit
def dbOf (x:DbT):Db:=
 match x with
 | (v,p0,p1,p2,p3,p4,p5,p6,n,c,i,m,_)=>⟨v.1,v.2,p0,p1,p2,p3,p4,p5,p6,n.1,n.2.1,n.2.2,c.1,c.2.1,c.2.2.1,c.2.2.2.1,c.2.2.2.2.1,c.2.2.2.2.2,i.1,i.2.1,i.2.2,m⟩
theorem r_db:bC Tryz.prog 39 dbC Db.ok:=
 (bC.struct (tot:=29) (Tryz.underlying39) (by kernel_rfl) (af.cons (off:=0) (sz:=2) r_ver rfl (by kernel_rfl) (af.cons (sz:=2) qV rfl (by kernel_rfl) (af.cons (sz:=2) qV rfl (by kernel_rfl) (af.cons (sz:=2) qV rfl (by kernel_rfl) (af.cons (sz:=2) qV rfl (by kernel_rfl) (af.cons (sz:=2) qV rfl (by kernel_rfl) (af.cons (sz:=2) qV rfl (by kernel_rfl) (af.cons (sz:=2) qV rfl (by kernel_rfl)
  (af.cons (sz:=3) r_norm rfl (by kernel_rfl) (af.cons (sz:=6) r_case rfl (by kernel_rfl) (af.cons (sz:=3) Hd rfl (by kernel_rfl) (af.cons (sz:=1) n6 rfl (by kernel_rfl) af.nil))))))))))))).map dbOf (λ_=>rfl) (λx h=>by
  obtain⟨v,p0,p1,p2,p3,p4,p5,p6,n,c,i,m,u⟩:=x;obtain⟨_,h0,h1,h2,h3,h4,h5,h6,hn,hc,hi,hm,_⟩:=h;refine⟨λk=>?_,λk=>?_,λk=>?_,hn.1⟩
  .unfold prop;split<;>assumption
  .unfold CH;split
   .exact hn.2.2
   .exact hc.2.2.2.2.1
   .exact hc.2.2.2.2.2
   .exact hi.1
   .exact hi.2.1
   .exact hi.2.2
  .unfold gB;split
   .exact hn.2.1
   .exact hc.1
   .exact hc.2.1
   .exact hc.2.2.1
   .exact hc.2.2.2.1
   .exact hm)
end
noncomputable abbrev oG (os:Os):World:=World.laidAll Tryz.prog os q9
theorem sX (os:Os) (args:Array Value):laidMetH Tryz.prog q9 ((oG os).forCall (λ_ _=>0) ⟨#[],args,[]⟩).memory:=by
 rw[MakeChecks.laidMetH_plain _ _ _ (by kernel_rfl)];exact laidMet_laidAll _ (by kernel_rfl) (by kernel_rfl)
theorem oF (os:Os) (args:Array Value):((oG os).forCall (λ_ _=>0) ⟨#[],args,[]⟩).Shaped Tryz.prog:=World.shaped_of_ZipB (by kernel_rfl) (by kernel_rfl)
end Go.Proofs.YtlimkdlhldlolaaGreatDoor
