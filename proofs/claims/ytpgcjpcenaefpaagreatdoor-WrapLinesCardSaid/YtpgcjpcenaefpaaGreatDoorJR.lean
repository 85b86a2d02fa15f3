/-
  What the statements' arguments read as; what is known of package-level variables when a call begins; a start that meets the rows' condition.
-/
import Derived.Test.YtpgcjpcenaefpaaGreatDoorRows
import Derived.Test.YtpgcjpcenaefpaaGreatDoorD0
import Derived.Test.YtpgcjpcenaefpaaGreatDoorG0
import Derived.Test.YtpgcjpcenaefpaaGreatDoorAmD
import Derived.ProofKit
import Derived.LaidMore
import Derived.OpenShut
import Derived.Lay
import Derived.LaidSub
import Derived.HandedShaped
import Derived.Shelf.Vars
import Derived.Stop.Joined
set_option linter.unusedSectionVars false
namespace Go.Proofs.YtpgcjpcenaefpaaGreatDoor
open Go Go.Am Go.ChangeShapes Go.WideShapes Go.ChangeAt Go.RowKit
set_option maxRecDepth 100000
theorem own:ownKnob Tryz.prog.godebug=Option.none:=by kernel_rfl
theorem Hn:laidOutB Tryz.prog=true:=by kernel_rfl
abbrev qt:List (String×DataW Unit):=Rows.wrapLinesRow.laid
theorem AB:(Rows.laid_strings_asciiSpace:DataW Unit)=.agg (fr.map λn:Nat=>.lit (.int .u8 (n:Int))):=by kernel_rfl
theorem AC {W:World}(h0:laidMetH Tryz.prog qt W) (r:Nat) (hr:r<256):W.cell? ⟨gA,r,none⟩=some (.int .u8 ((fr.getD r 0:Nat):Int)):=by
 have h:laidMetH Tryz.prog [("strings.asciiSpace",Rows.laid_strings_asciiSpace)] W:=h0.filter (λx=>x.1 == "strings.asciiSpace")
 rw[MakeChecks.laidMetH_plain _ _ _ (by kernel_rfl)] at h;obtain⟨ps,⟨g,t,cs,fuel,p,q,hg,ht,hv,hd,_,_⟩,_,_⟩:=h
 obtain rfl:=Option.some.inj ((show Tryz.prog.globalNamed "strings.asciiSpace" = some gA by kernel_rfl).symm.trans hg)
 obtain rfl:=Option.some.inj ((show(Tryz.prog.globals[gA]?).map (·.type)=some 291 by kernel_rfl).symm.trans ht);rw[AB] at hd;obtain⟨xs,m,_,ex,_,hl,hel⟩:=DataW.trod_array Tryz.underlying291 hd;have c5:Tryz.prog.cellsOf 5=1:=by kernel_rfl
 have hE:=hel r hr;rw[c5,Nat.mul_one,List.getElem?_eq_getElem om] at hE;obtain⟨z,e1,e2,_⟩:=DataW.trod_int Tryz.underlying5 hE;have hlen:fr.length=256:=by kernel_rfl
 have e3:(xs.map (·.1))=fr.map λn:Nat=>.lit (.int .u8 (n:Int)):=(DataW.agg.inj (Prod.mk.inj ex).1).symm
 have e4:(xs.map (·.1))[r]?=(fr.map λn:Nat=>(DataW.lit (.int .u8 (n:Int)):DataW Unit))[r]?:=by rw[e3]
 rw[List.getElem?_map,List.getElem?_map,List.getElem?_eq_getElem (by omega:r<xs.length),List.getElem?_eq_getElem (by omega:r<fr.length),e2] at e4
 have hz:z=((fr.getD r 0:Nat):Int):=by
  simp only[kF,kA,DataW.lit.injEq,Lit.int.injEq,true_and] at e4;rw[e4,List.getD,List.getElem?_eq_getElem (by omega:r<fr.length)];rfl
 rw[World.var?_cell hg hv r,<-hz]
 have:cs.toList[r]?=some (.int .u8 z):=by
  have h0:((cs.toList.drop r).take 1)[0]?=some (.int .u8 z):=by rw[e1];rfl
  simpa using h0
 simpa using this
theorem xG {W:World}(h:W.ShapedOpen Tryz.prog):∃ m,W.cell? ⟨gM,0,none⟩=some (.int .i64 m):=
 cell_of_shapedOpen_int (t:=3) (zero:=#[.int .i64 0]) h (of_decide_eq_true (by kernel_rfl)) (by kernel_rfl) rfl (by kernel_rfl) (by kernel_rfl) Tryz.underlying3
theorem BV {w:World}{a:Addr}{v:Value}(h:w.cell? a=some v):a.block<w.heap.size:=by
 unfold World.cell? at h;split at h
 .rename_i hb;exact(Array.getElem?_eq_some_iff.1 hb).1
 .cases h
theorem J5 {W:World}(hL:laidMetH Tryz.prog qt W) (hs:W.ShapedOpen Tryz.prog):gtR.inv (all W):=by
 obtain⟨m,hm⟩:=xG hs;have h0:=AC hL;refine⟨m,BV (h0 0 om),λi hi=>?_,BV hm,λi hi=>?_⟩
 .have hlen:fr.length=256:=by kernel_rfl
  have hi':i<fr.length:=by simpa [vf] using hi
  rw[Nat.zero_add];show W.cell? ⟨gA,i,none⟩=_;rw[h0 i om];simp[vf,List.getD,hi']
 .have:i=0:=by simpa using hi
  subst this;exact hm
theorem qL {H:Type}{enc:TypeId×Value->H}{a:Assume}{C:Checked}{os:Os}{f:FuncId}{fn:Func}{s:ChangeSpec}{conds:List PathCond}{apart fresh handsOn again:Bool}{X:World->Array Value->Prop}
  (hX:∀ (w w':World) (args:Array Value),w.heap=w'.heap->X w args->X w' args)
  (own:ownKnob C.prog.godebug=none) (started:os.Started) (noInit:C.prog.inits.idxOf? f=none) (hfn:C.prog.funcs[f]?=some fn)
  (witness:∃ (w:World) (tape:Tape) (i:Input),w.os=os/\(w.forCall tape i).Shaped C.prog/\i.vars=[]/\Input.okWide C.prog (w.forCall tape i) .any w.heap.size f i /\
   ((s.pre enc C.prog fn conds apart (w.forCall tape i).memory i.args/\X (w.forCall tape i).memory i.args)/\sizedMet enc C.prog fn (OpenSpec.ofChange s) apart (w.forCall tape i).memory i.args)/\a.holds C.prog (lone (Frame.enter C.prog f i.args .normal) [] (w.forCall tape i)))
  (contract:∀ (W:World) (base:Nat) (args:Array Value) (ds gs:List (DataW H)) (before:List MemPlace),
   (∀ (j:Nat) t v,fn.params[j]?=some t->args[j]?=some v->Value.okWide C.prog W .any base t v) ->
   DataW.Whole enc C.prog fn.params.toList s.vars apart W args.toList ds gs before->X W args->W.ShapedOpen C.prog ->
   Calls C.prog f args W λe W'=>∃ v,e=.returned v/\s.post enc C.prog fn apart fresh handsOn again W args v W') :
  ReturnsInHanded a C os f .any (λw args=>(s.pre enc C.prog fn conds apart w args/\X w args)/\sizedMet enc C.prog fn (OpenSpec.ofChange s) apart w args) (s.post enc C.prog fn apart fresh handsOn again):=by
 refine returnsInHanded_of_calls own started noInit witness ?_;intro w tape i _ hsh _ hok hpre hholds;obtain⟨_,_,_,fn',hfn',_,_,_,_,hval⟩:=hok;have e:fn'=fn:=Option.some.inj (hfn'.symm.trans hfn);subst e;obtain⟨⟨⟨ds,gs,before,hw,hc⟩,hx⟩,hz⟩:=hpre;have hw':=DataW.Whole.of_heap (w':=w.forCall tape i) (by rfl) hw;refine(contract (w.forCall tape i) w.heap.size i.args ds gs before hval hw' (hX _ _ _ (by rfl) hx) hsh).mono λe W' ⟨v,he,hp⟩=>?_
 subst he;exact ChangeSpec.post_blind hp
section
variable [GT]
theorem mn:a9 Tryz.prog 3 (λn:Int=>[i64 n]) (λn=>-9223372036854775808<=n/\n<=9223372036854775807):=a9.i64 (by kernel_rfl)
theorem EF:a9 Tryz.prog 40 (λl:List Int=>[aD l]) (λl=>l.length<=9223372036854775807):=
 (a9.slice (e:=3) (by kernel_rfl) mn (sz:=1) (by kernel_rfl) om).map id (λl=>by simp only[id,aN];rfl) (λ_ h=>h.1)
theorem IV {t:TypeId}(ht:Tryz.prog.underlying t=some (.int .i64)){H:Type}{enc:TypeId×Value->H}{W:World}{r:Reach}{base:Nat}{sp:Nat->Bool}{v:Value}{d:DataW H}{ps:List MemPlace}
  (hv:Value.okWide Tryz.prog W r base t v) (h:DataW.Trod enc Tryz.prog W 0 sp true t v d ps):∃ n:Int,(-9223372036854775808<=n/\n<=9223372036854775807)/\V (all W) (i64 n) v:=by
 obtain⟨n,rfl,_,_,hw⟩:=open_int ht hv h
 have hw' : -9223372036854775808<=n/\n<=9223372036854775807:=by
  simp only[Lit.wf,IntKind.min,IntKind.max,IntKind.signed,IntKind.bits,kC] at hw;simp at hw;omega
 exact⟨n,hw',by simp[V,cn]⟩
end
section
variable [GT]
theorem Iw:a9 Tryz.prog 9 (λs:Str=>[.str s]) (λs=>s.length<=9223372036854775807):=a9.str (by kernel_rfl)
theorem r_strs:a9 Tryz.prog 24 (λl:List Str=>[Am.strs l]) (λl=>l.length<=9223372036854775807/\long l):=
 (a9.slice (e:=9) (by kernel_rfl) Iw (sz:=1) (by kernel_rfl) om).map id (λl=>by simp only[id,aN];rfl) (λ_ h=>h)
theorem r_spn:a9 Tryz.prog 93 D0 (λ_=>True):=
 (a9.struct (tot:=3) (Tryz.underlying93) (by kernel_rfl) (ad.cons (off:=0) (sz:=1) mn rfl (by kernel_rfl) (ad.cons (sz:=1) mn rfl (by kernel_rfl) (ad.cons (sz:=1) mn rfl (by kernel_rfl) ad.nil)))).map (λx=>⟨x.1,x.2.1,x.2.2.1⟩) (λ_=>rfl) (λ_ _=>trivial)
theorem EE:a9 Tryz.prog 25 (λl:List Spn=>[cf l]) (λl=>l.length<=9223372036854775807):=
 (a9.slice (e:=93) (by kernel_rfl) r_spn (sz:=3) (by kernel_rfl) om).map id (λ_=>rfl) (λ_ h=>h.1)
theorem qO:a9 Tryz.prog 27 prpC Prp.ok:=
 (a9.struct (tot:=2) (Tryz.underlying27) (by kernel_rfl) (ad.cons (off:=0) (sz:=1) r_strs rfl (by kernel_rfl) (ad.cons (sz:=1) EE rfl (by kernel_rfl) ad.nil))).map (λx=>⟨x.1,x.2.1⟩) (λ_=>rfl) (λ_ h=>⟨h.1.1,h.1.2,h.2.1⟩)
theorem r_rng:a9 Tryz.prog 52 bm (λ_=>True):=
 (a9.struct (tot:=2) (Tryz.underlying52) (by kernel_rfl) (ad.cons (off:=0) (sz:=1) mn rfl (by kernel_rfl) (ad.cons (sz:=1) mn rfl (by kernel_rfl) ad.nil))).map (λx=>⟨x.1,x.2.1⟩) (λ_=>rfl) (λ_ _=>trivial)
theorem r_rngs:a9 Tryz.prog 29 (λl:List Rng=>[aq l]) (λl=>l.length<=9223372036854775807):=
 (a9.slice (e:=52) (by kernel_rfl) r_rng (sz:=2) (by kernel_rfl) om).map id (λ_=>rfl) (λ_ h=>h.1)
theorem s6:a9 Tryz.prog 31 (λl:List Rng=>[aq l]) (λl=>l.length<=9223372036854775807):=
 (a9.struct (tot:=1) (Tryz.underlying31) (by kernel_rfl) (ad.cons (off:=0) (sz:=1) r_rngs rfl (by kernel_rfl) ad.nil)).map (λx=>x.1) (λ_=>rfl) (λ_ h=>h.1)
theorem r_mpg:a9 Tryz.prog 112 iu (λm=>m.to.length<=9223372036854775807/\m.tag.length<=9223372036854775807):=
 (a9.struct (tot:=3) (Tryz.underlying112) (by kernel_rfl) (ad.cons (off:=0) (sz:=1) mn rfl (by kernel_rfl) (ad.cons (sz:=1) EF rfl (by kernel_rfl) (ad.cons (sz:=1) Iw rfl (by kernel_rfl) ad.nil)))).map (λx=>⟨x.1,x.2.1,x.2.2.1⟩) (λ_=>rfl) (λ_ h=>⟨h.2.1,h.2.2.1⟩)
abbrev uB (l:List Mpg):Prop:=l.length<=9223372036854775807/\∀ i (h:i<l.length),l[i].to.length<=9223372036854775807/\l[i].tag.length<=9223372036854775807
theorem nl:a9 Tryz.prog 28 (λl:List Mpg=>[cQ l]) uB:=
 (a9.slice (e:=112) (by kernel_rfl) r_mpg (sz:=3) (by kernel_rfl) om).map id (λ_=>rfl) (λ_ h=>h)
theorem r_ver:a9 Tryz.prog 23 (λx:Int×Int=>[i64 x.1,i64 x.2]) (λ_=>True):=
 (a9.struct (tot:=2) (Tryz.underlying23) (by kernel_rfl) (ad.cons (off:=0) (sz:=1) mn rfl (by kernel_rfl) (ad.cons (sz:=1) mn rfl (by kernel_rfl) ad.nil))).map (λx=>(x.1,x.2.1)) (λ_=>rfl) (λ_ _=>trivial)
abbrev uA (l:List Rng):Prop:=l.length<=9223372036854775807
abbrev JB:=List Spn×List Mpg×List Rng
theorem r_norm:a9 Tryz.prog 33 (λx:JB=>[cf x.1,cQ x.2.1,aq x.2.2]) (λx=>x.1.length<=9223372036854775807/\uB x.2.1/\uA x.2.2):=
 (a9.struct (tot:=3) (Tryz.underlying33) (by kernel_rfl) (ad.cons (off:=0) (sz:=1) EE rfl (by kernel_rfl) (ad.cons (sz:=1) nl rfl (by kernel_rfl) (ad.cons (sz:=1) s6 rfl (by kernel_rfl) ad.nil)))).map (λx=>(x.1,x.2.1,x.2.2.1)) (λ_=>rfl) (λ_ h=>⟨h.1,h.2.1,h.2.2.1⟩)
abbrev JC:=List Mpg×List Mpg×List Mpg×List Mpg×List Rng×List Rng
theorem r_case:a9 Tryz.prog 35 (λx:JC=>[cQ x.1,cQ x.2.1,cQ x.2.2.1,cQ x.2.2.2.1,aq x.2.2.2.2.1,aq x.2.2.2.2.2]) (λx=>uB x.1/\uB x.2.1/\uB x.2.2.1/\uB x.2.2.2.1/\uA x.2.2.2.2.1/\uA x.2.2.2.2.2):=
 (a9.struct (tot:=6) (Tryz.underlying35) (by kernel_rfl) (ad.cons (off:=0) (sz:=1) nl rfl (by kernel_rfl) (ad.cons (sz:=1) nl rfl (by kernel_rfl) (ad.cons (sz:=1) nl rfl (by kernel_rfl) (ad.cons (sz:=1) nl rfl (by kernel_rfl) (ad.cons (sz:=1) s6 rfl (by kernel_rfl) (ad.cons (sz:=1) s6 rfl (by kernel_rfl) ad.nil))))))).map (λx=>(x.1,x.2.1,x.2.2.1,x.2.2.2.1,x.2.2.2.2.1,x.2.2.2.2.2.1)) (λ_=>rfl) (λ_ h=>⟨h.1,h.2.1,h.2.2.1,h.2.2.2.1,h.2.2.2.2.1,h.2.2.2.2.2.1⟩)
abbrev GQ:=List Rng×List Rng×List Rng
theorem G9:a9 Tryz.prog 37 (λx:GQ=>[aq x.1,aq x.2.1,aq x.2.2]) (λx=>uA x.1/\uA x.2.1/\uA x.2.2):=
 (a9.struct (tot:=3) (Tryz.underlying37) (by kernel_rfl) (ad.cons (off:=0) (sz:=1) s6 rfl (by kernel_rfl) (ad.cons (sz:=1) s6 rfl (by kernel_rfl) (ad.cons (sz:=1) s6 rfl (by kernel_rfl) ad.nil)))).map (λx=>(x.1,x.2.1,x.2.2.1)) (λ_=>rfl) (λ_ h=>⟨h.1,h.2.1,h.2.2.1⟩)
abbrev DbT:=(Int×Int)×Prp×Prp×Prp×Prp×Prp×Prp×Prp×JB×JC×GQ×List Mpg×Unit
def dbOf (x:DbT):Db:=
 match x with
 | (v,p0,p1,p2,p3,p4,p5,p6,n,c,i,m,_)=>⟨v.1,v.2,p0,p1,p2,p3,p4,p5,p6,n.1,n.2.1,n.2.2,c.1,c.2.1,c.2.2.1,c.2.2.2.1,c.2.2.2.2.1,c.2.2.2.2.2,i.1,i.2.1,i.2.2,m⟩
theorem r_db:a9 Tryz.prog 39 dbC Db.ok:=
 (a9.struct (tot:=29) (Tryz.underlying39) (by kernel_rfl) (ad.cons (off:=0) (sz:=2) r_ver rfl (by kernel_rfl) (ad.cons (sz:=2) qO rfl (by kernel_rfl) (ad.cons (sz:=2) qO rfl (by kernel_rfl) (ad.cons (sz:=2) qO rfl (by kernel_rfl) (ad.cons (sz:=2) qO rfl (by kernel_rfl) (ad.cons (sz:=2) qO rfl (by kernel_rfl) (ad.cons (sz:=2) qO rfl (by kernel_rfl) (ad.cons (sz:=2) qO rfl (by kernel_rfl)
  (ad.cons (sz:=3) r_norm rfl (by kernel_rfl) (ad.cons (sz:=6) r_case rfl (by kernel_rfl) (ad.cons (sz:=3) G9 rfl (by kernel_rfl) (ad.cons (sz:=1) nl rfl (by kernel_rfl) ad.nil))))))))))))).map dbOf (λ_=>rfl) (λx h=>by
  obtain⟨v,p0,p1,p2,p3,p4,p5,p6,n,c,i,m,u⟩:=x;obtain⟨_,h0,h1,h2,h3,h4,h5,h6,hn,hc,hi,hm,_⟩:=h;refine⟨λk=>?_,λk=>?_,λk=>?_,hn.1⟩
  .unfold prop;split<;>assumption
  .unfold Bz;split
   .exact hn.2.2
   .exact hc.2.2.2.2.1
   .exact hc.2.2.2.2.2
   .exact hi.1
   .exact hi.2.1
   .exact hi.2.2
  .unfold gD;split
   .exact hn.2.1
   .exact hc.1
   .exact hc.2.1
   .exact hc.2.2.1
   .exact hc.2.2.2.1
   .exact hm)
end
noncomputable abbrev n8 (os:Os):World:=World.laidAll Tryz.prog os qt
theorem sJ (os:Os) (args:Array Value):laidMetH Tryz.prog qt ((n8 os).forCall (λ_ _=>0) ⟨#[],args,[]⟩).memory:=by
 rw[MakeChecks.laidMetH_plain _ _ _ (by kernel_rfl)];exact laidMet_laidAll _ (by kernel_rfl) (by kernel_rfl)
theorem n7 (os:Os) (args:Array Value):((n8 os).forCall (λ_ _=>0) ⟨#[],args,[]⟩).Shaped Tryz.prog:=World.shaped_of_ZipB (by kernel_rfl) (by kernel_rfl)
end Go.Proofs.YtpgcjpcenaefpaaGreatDoor
