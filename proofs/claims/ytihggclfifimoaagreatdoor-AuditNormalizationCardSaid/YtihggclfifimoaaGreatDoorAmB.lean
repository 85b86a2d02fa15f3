/-
  The abstract machine: what Go code does to abstract values, and that it does so in the model. No condition beyond what each theorem says.
-/
import Derived.Test.YtihggclfifimoaaGreatDoorAmA
import Derived.TacticsIn
set_option linter.unusedSectionVars false
/-
 The abstract machine,part 11: every operation that is no call of a function does what 'aop' says.
-/
namespace Go.Am
variable [GT]
section
variable {P:Program}{ti:TI}{c:Ctx}{h:aB}
theorem ll (T:TOk P ti) (R:Rel c h){src dst:TypeId}{dx d:D}{h':aB}{vx:Value}(hd:bt P ti h src dst dx=some (d,h')) (hx:V c dx vx) :
  h'=h∧∃ v,(convert src dst vx).run P c.w=.ok v c.w∧V c d v:=by
 unfold bt at hd;split at hd
 ·rename_i a b ha hb;obtain⟨hs,_⟩:=T.ok src a ha;obtain⟨ht,_⟩:=T.ok dst b hb;split at hd
  ·split at hd
   ·rename_i r hr;simp only[kJ,kB] at hd;obtain⟨d',h1,rfl,rfl⟩:=hd;simp only[Option.bind_eq_some_iff] at hr;obtain⟨v,h2,h3⟩:=hr;rw[iS h2 hx];exact⟨rfl,r,b8 _ _ h3,bY c r d' h1⟩
   ·simp at hd
  ·rename_i s e1 e2;rw[e1] at hs;rw[e2] at ht;simp only[kA,kB] at hd;obtain⟨rfl,rfl⟩:=hd;have hx':=hx;simp only[V] at hx;subst hx;exact⟨rfl,_,by simp[convert,run_underlying hs,run_underlying ht],hx'⟩
  ·rename_i e e1 e2;rw[e1] at hs;rw[e2] at ht;split at hd
   ·rename_i ei hei;obtain⟨he,_⟩:=T.ok e ei hei;unfold gN at hd;split at hd
    ·rename_i e3;rw[e3] at he;simp only[kA,kB] at hd;obtain⟨rfl,rfl⟩:=hd;simp only[V] at hx;obtain⟨_,rfl⟩:=hx;exact⟨rfl,_,gk hs he ht,by simp only[V]⟩
    ·rename_i e3;rw[e3] at he;simp only[kA,kB] at hd;obtain⟨rfl,rfl⟩:=hd;simp only[V] at hx;obtain⟨_,rfl⟩:=hx;exact⟨rfl,_,gk hs he ht,by simp only[V]⟩
    ·rename_i n cs e3;rw[e3] at he;split at hd
     ·rename_i hl;simp only[kJ,kB] at hd;obtain⟨l,hb,rfl,rfl⟩:=hd;simp only[V] at hx;obtain⟨a0,cap,ys,rfl,_,hv,hcase⟩:=hx;have hlen:=hv.length;rcases hcase with h0|⟨b0,o,rfl,_,hh⟩
      ·subst h0;have h1:cs=[]:=by simpa using hlen.symm
       subst h1;simp only[dB,kA] at hb;subst hb;simp only[List.length_nil] at hl;subst hl;exact⟨rfl,_,gk hs he ht,by simp only[V]⟩
      ·exact⟨rfl,_,ln hs he ht hv hh om hb,by simp only[V]⟩
     ·simp at hd
    ·rename_i id off n cap es ex e3;rw[e3] at he;split at hd
     ·split at hd
      ·rename_i cs bx hg;split at hd
       ·rename_i hle;simp only[kJ,kB] at hd;obtain⟨l,hb,rfl,rfl⟩:=hd;simp only[V] at hx;obtain⟨b0,o,cap',_,_,hφ,rfl,_⟩:=hx;obtain⟨b1,o1,ys,z1,h1,h2,h3,_⟩:=gM R hg;rw[hφ] at h1;injection h1 with h1;injection h1 with x1 x2;subst x1;subst x2
        have hl2:=h2.length;exact⟨rfl,_,ln hs he ht ((h2.drop off).take n) (h3.sub off n) (iT om) hb,by simp only[V]⟩
       ·simp at hd
      ·simp at hd
     ·simp at hd
    ·simp at hd
   ·simp at hd
  ·simp at hd
 ·simp at hd
def pO (P:Program) (a:Act) (o:Oper) (c:Ctx) (h:aB) (id:Nat) (d:D) (h':aB):Prop:=
 ∃ nx v c',(execOp a.eval o).run P c.w=.ok nx c'.w∧(nx=.value v∨(nx=.skip∧v=undef))∧V c' d v∧Rel c' h'∧aZ c h c' h'∧∀ j,j≠id->c'.φ j=c.φ j
theorem pO.made {a:Act}{o:Oper}{id:Nat}{d:D}{h':aB}{s:Sem Value}(he:execOp a.eval o=do pure (.value (<-s))) (hm:Made P c h id s d h'):pO P a o c h id d h':=by
 obtain⟨v,c',h1,h2,h3,h4,h5⟩:=hm;exact⟨.value v,v,c',by rw[he];simp[h1],.inl rfl,h2,h3,h4,h5⟩
theorem pO.same {a:Act}{o:Oper}{id:Nat}{d:D}{s:Sem Value}(R:Rel c h) (he:execOp a.eval o=do pure (.value (<-s))) (hm:∃ v,s.run P c.w=.ok v c.w∧V c d v):pO P a o c h id d h:=.made he (Made.same R hm)
theorem pO.unit {a:Act} {o:Oper} {id:Nat} {h':aB} {s:Sem Unit} (he:execOp a.eval o=do s;pure .skip) (hm:∃ w',s.run P c.w=.ok () w'∧Rel { c with w:=w' } h'∧aZ c h { c with w:=w' } h'):pO P a o c h id aM h':=by
 obtain⟨w',h1,h2,h3⟩:=hm;exact⟨.skip,undef,{ c with w:=w' },by rw[he];simp[h1],.inr ⟨rfl,rfl⟩,V.undef,h2,h3,λ_ _=>rfl⟩
theorem map_some {α β γ:Type}{x:Option α}{f:α->β×γ}{d:β}{h:γ}(hd:x.map f=some (d,h)):∃ a,x=some a∧f a=(d,h):=by
 simpa only[kJ] using hd
theorem sB (T:TOk P ti) (R:Rel c h){id:Nat}(hf:c.φ id=none) (hn:id<h.next){a:Act}{o:Oper}{b:Builtin}{cl:Call}{ds:List D}{d:D}{h':aB}(ho:o.op=.call cl) (hc:cl.callee=.builtin b)
  (hds:VS c ds (cl.args.toList.map a.eval)) (hd:ao P ti h id b cl.argTypes.toList o.type ds=some (d,h')):pO P a o c h id d h':=by
 have hargs:cl.args.map a.eval=(cl.args.toList.map a.eval).toArray:=by apply Array.ext';simp
 have key:∀ s:Sem Value,(∀ consts,builtin b cl.argTypes o.type consts (cl.args.map a.eval)=(do pure (.value (<-s))))->execOp a.eval o=(do pure (.value (<-s))):=λs hs=>by
  unfold execOp;simp only[ho,resolve,hc];exact hs _
 unfold ao at hd;split at hd
 ·rename_i ds dx;obtain⟨v1,l1,e1,g1,g2⟩:=hds.inv;obtain⟨v2,l2,e2,g3,g4⟩:=g2.inv;simp only[VS] at g4;subst g4;subst e2;refine .made (key _ λconsts=>rfl) ?_;rw[hargs,e1];have:=ux (P:=P) (ty:=o.type) T R hf hn g1 g3 hd
  simpa using this
 ·rename_i ds dx;obtain⟨v1,l1,e1,g1,g2⟩:=hds.inv;obtain⟨v2,l2,e2,g3,g4⟩:=g2.inv;simp only[VS] at g4;subst g4;subst e2;refine .made (key _ λconsts=>rfl) ?_;rw[hargs,e1];have:=zE (P:=P) (ty:=o.type) (id:=id) T R g1 g3 hd
  simpa using this
 ·rename_i x;obtain⟨v1,l1,e1,g1,g2⟩:=hds.inv;simp only[VS] at g2;subst g2;obtain⟨d',h1,h2⟩:=map_some hd;simp only[kB] at h2;obtain⟨rfl,rfl⟩:=h2;refine .same R (key _ λconsts=>rfl) ?_;rw[hargs,e1];have:=se (P:=P) (ty:=o.type) T R h1 g1
  simpa using this
 ·split at hd
  ·rename_i vs hvs;split at hd
   ·rename_i r hr;obtain⟨d',h1,h2⟩:=map_some hd;simp only[kB] at h2;obtain⟨rfl,rfl⟩:=h2;refine .same R (key _ λconsts=>rfl) ⟨r,?_,bY c r _ h1⟩;rw[hargs,cQ hvs hds];have:=b8 _ c.w hr
    simpa using this
   ·simp at hd
  ·simp at hd
 ·split at hd
  ·rename_i vs hvs;split at hd
   ·rename_i r hr;obtain⟨d',h1,h2⟩:=map_some hd;simp only[kB] at h2;obtain⟨rfl,rfl⟩:=h2;refine .same R (key _ λconsts=>rfl) ⟨r,?_,bY c r _ h1⟩;rw[hargs,cQ hvs hds];have:=b8 _ c.w hr
    simpa using this
   ·simp at hd
  ·simp at hd
 ·split at hd
  ·rename_i vs hvs;split at hd
   ·rename_i r hr;obtain⟨d',h1,h2⟩:=map_some hd;simp only[kB] at h2;obtain⟨rfl,rfl⟩:=h2;refine .same R (key _ λconsts=>rfl) ⟨r,?_,bY c r _ h1⟩;rw[hargs,cQ hvs hds];have:=b8 _ c.w hr
    simpa using this
   ·simp at hd
  ·simp at hd
 ·simp at hd
theorem ii {tmps:List D}{a:Act}(hI:GT.inv c) (ht:VS c tmps a.tmps.toList){x:Option Operand}{d:Option D}(hd:(match x with|some y=>(ev tmps y).map some|none=>some none)=some d):OV c d (x.map a.eval):=by
 cases x with
 | none=>simp only[kA] at hd;subst hd;trivial
 | some y=>
  simp only[kJ] at hd;obtain⟨d',h1,rfl⟩:=hd;exact aI hI ht h1
def dH:Op->Bool
 | .alloc _|.box _ _|.buildSlice _ _ _|.makeMap _ _|.makeSlice _ _ _=>true
 | _=>false
theorem i6 (T:TOk P ti){id:Nat}{tmps:List D}{a:Act}(hI:GT.inv c) (ht:VS c tmps a.tmps.toList){o:Oper}{d:D}{h':aB}(ha:dH o.op=true)
  (hd:aop P ti tmps h id o=some (d,h')):∃ box,h'=h.put id box∧∃ s:Sem Value,execOp a.eval o=(do pure (.value (<-s)))∧New P c id s d box:=by
 unfold aop at hd;split at hd;all_goals first|(rename_i ho;rw[ho] at ha;simp[dH] at ha;done)|skip
 ·rename_i t ho;obtain⟨x,h1,h2⟩:=map_some hd;simp only[kB] at h2;obtain⟨rfl,rfl⟩:=h2;exact⟨_,rfl,_,by unfold execOp;simp only[ho],CS T id h1⟩
 ·rename_i t x ho;obtain⟨d',h1,h2⟩:=map_some hd;simp only[kB] at h2;obtain⟨rfl,rfl⟩:=h2;exact⟨_,rfl,_,by unfold execOp;simp only[ho],Gt (t:=t) id (aI hI ht h1) (EQ h1)⟩
 ·rename_i t n ps ho;split at hd
  ·rename_i l hl;obtain⟨box,rfl,hb⟩:=rW (P:=P) T (hZ hI ht hl) hd;refine⟨box,rfl,_,by unfold execOp;simp only[ho];rfl,?_⟩;have e:(ps.map λ(i,x)=>(i,a.eval x))=(ps.toList.map λ(i,x)=>(i,a.eval x)).toArray:=by apply Array.ext';simp
   rw[e];exact hb
  ·simp at hd
 ·rename_i t r ho;split at hd
  ·simp only[kA,kB] at hd;obtain⟨rfl,rfl⟩:=hd;exact⟨_,rfl,_,by unfold execOp;simp only[ho];rfl,ov id (.inl rfl)⟩
  ·rename_i x;split at hd
   ·rename_i ta k n h1 h2;have hv:=aI hI ht h2;simp only[V] at hv;obtain⟨hu,_⟩:=T.ok t ta h1;split at hd
    ·rename_i kt e he;rw[he] at hu;simp only[kA,kB] at hd;obtain⟨rfl,rfl⟩:=hd;exact⟨_,rfl,_,by unfold execOp;simp only[ho];rfl,ov id (.inr ⟨k,n,kt,e,by simp[hv.2],hu⟩)⟩
    ·simp at hd
   ·simp at hd
 ·rename_i t l cc ho;split at hd
  ·rename_i dx dy hx hy;obtain⟨box,rfl,hb⟩:=r6 (P:=P) T (aI hI ht hx) (aI hI ht hy) hd;exact⟨box,rfl,_,by unfold execOp;simp only[ho],hb⟩
  ·simp at hd
 ·simp at hd
theorem o5 {P:Program}{ti:TI}{c:Ctx}{t:TypeId}{d d':D}{x:Value}(T:TOk P ti) (h:re ti t d=some d') (hx:V c d x):∃ v,(Instr.makeInterface t x).run P c.w=.ok v c.w∧V c d' v:=by
 unfold re at h;split at h
 ·rename_i a ha;have hu:=(T.ok t a ha).1;unfold Instr.makeInterface;simp only[Sem.run_bind,run_underlying hu,Result.andThen];split at h
  ·cases h
  ·rename_i hne;injection h with h;subst h
   refine⟨.iface t x,?_,by simp only[V];exact⟨x,rfl,hx⟩⟩;split
   ·rename_i hq;exact absurd hq (hne _)
   ·rfl
 ·cases h
theorem tL (T:TOk P ti) (R:Rel c h){id:Nat}(hf:c.φ id=none) (hn:id<h.next){tmps:List D}{a:Act}(ht:VS c tmps a.tmps.toList){o:Oper}{d:D}{h':aB}
  (hd:aop P ti tmps h id o=some (d,h')):pO P a o c h id d h':=by
 unfold aop at hd;split at hd
 ·rename_i x ho;obtain⟨d',h1,h2⟩:=map_some hd;simp only[kB] at h2;obtain⟨rfl,rfl⟩:=h2;exact⟨.value (a.eval x),a.eval x,c,by unfold execOp;simp only[ho];rfl,.inl rfl,aI R.inv ht h1,R,aZ.refl c h,λ_ _=>rfl⟩
 ·rename_i x ho;obtain⟨d',h1,h2⟩:=map_some hd;simp only[kB] at h2;obtain⟨rfl,rfl⟩:=h2;exact⟨.value (a.eval x),a.eval x,c,by unfold execOp;simp only[ho];rfl,.inl rfl,aI R.inv ht h1,R,aZ.refl c h,λ_ _=>rfl⟩
 ·rename_i cc x y ho;split at hd
  ·rename_i t hc;obtain⟨d',h1,h2⟩:=map_some hd;simp only[kB] at h2;obtain⟨rfl,rfl⟩:=h2;have hb:=aI R.inv ht hc;simp only[V] at hb;refine⟨.value (if t then a.eval x else a.eval y),_,c,?_,.inl rfl,?_,R,aZ.refl c h,λ_ _=>rfl⟩
   ·unfold execOp;simp[ho,hb.2,asBool]
   ·cases t
    ·simpa using aI R.inv ht h1
    ·simpa using aI R.inv ht h1
  ·simp at hd
 ·rename_i t ho;have ha:dH o.op=true:=by rw[ho];rfl
  obtain⟨box,rfl,s,he,hs⟩:=i6 T R.inv ht ha (show aop P ti tmps h id o=some (d,h') by unfold aop;simp only[ho];exact hd);exact .made he (hs.made R hf hn)
 ·rename_i t x ho;have ha:dH o.op=true:=by rw[ho];rfl
  obtain⟨box,rfl,s,he,hs⟩:=i6 T R.inv ht ha (show aop P ti tmps h id o=some (d,h') by unfold aop;simp only[ho];exact hd);exact .made he (hs.made R hf hn)
 ·rename_i t ps ho;split at hd
  ·rename_i l hl;obtain⟨d',h1,h2⟩:=map_some hd;simp only[kB] at h2;obtain⟨rfl,rfl⟩:=h2;have:=pA (P:=P) T (hZ R.inv ht hl) h1
   refine .same R (by unfold execOp;simp only[ho];rfl) ?_;have e:(ps.map λ(i,x)=>(i,a.eval x))=(ps.toList.map λ(i,x)=>(i,a.eval x)).toArray:=by apply Array.ext';simp
   rw[e];exact this
  ·simp at hd
 ·rename_i t n ps ho;have ha:dH o.op=true:=by rw[ho];rfl
  obtain⟨box,rfl,s,he,hs⟩:=i6 T R.inv ht ha (show aop P ti tmps h id o=some (d,h') by unfold aop;simp only[ho];exact hd);exact .made he (hs.made R hf hn)
 ·rename_i t x ho;split at hd
  ·rename_i dx hx;obtain⟨d',h1,h2⟩:=map_some hd;simp only[kB] at h2;obtain⟨rfl,rfl⟩:=h2;exact .same R (by unfold execOp;simp only[ho]) (mE T R h1 (aI R.inv ht hx))
  ·simp at hd
 ·rename_i t x y ho;split at hd
  ·rename_i dx dy hx hy;obtain⟨d',h1,h2⟩:=map_some hd;simp only[kB] at h2;obtain⟨rfl,rfl⟩:=h2;exact .unit (by unfold execOp;simp only[ho]) (vT T R h1 (aI R.inv ht hx) (aI R.inv ht hy) (EQ hy))
  ·simp at hd
 ·rename_i x ho;split at hd
  ·rename_i dx hx;obtain⟨d',h1,h2⟩:=map_some hd;simp only[kB] at h2;obtain⟨rfl,rfl⟩:=h2;have hv:=aI R.inv ht hx;refine⟨.value (a.eval x),a.eval x,c,?_,.inl rfl,?_,R,aZ.refl c h,λ_ _=>rfl⟩
   ·unfold execOp;simp only[ho];unfold fP at h1;split at h1
    ·simp only[V] at hv;obtain⟨_,_,_,hv⟩:=hv;rw[hv];rfl
    ·simp only[V] at hv;obtain⟨_,_,_,hv,_⟩:=hv;rw[hv];rfl
    ·simp only[V] at hv;obtain⟨_,_,hv,_⟩:=hv;rw[hv];rfl
    ·simp at h1
   ·unfold fP at h1;split at h1<;>simp only[kA,reduceCtorEq] at h1;all_goals(subst h1;exact hv)
  ·simp at hd
 ·rename_i op t x y _ ho;split at hd
  ·rename_i dx dy hx hy;obtain⟨d',h1,h2⟩:=map_some hd;simp only[kB] at h2;obtain⟨rfl,rfl⟩:=h2;exact .same R (by unfold execOp;simp only[ho]) (tJ h1 (aI R.inv ht hx) (aI R.inv ht hy))
  ·simp at hd
 ·rename_i op _ x ho;split at hd
  ·rename_i v hx;simp only[Option.bind_eq_some_iff] at hx;obtain⟨dx,hx1,hx2⟩:=hx;split at hd
   ·rename_i r hr;obtain⟨d',h1,h2⟩:=map_some hd;simp only[kB] at h2;obtain⟨rfl,rfl⟩:=h2;refine .same R (by unfold execOp;simp only[ho];rfl) ⟨r,?_,bY c r _ h1⟩;rw[iS hx2 (aI R.inv ht hx1)];exact b8 _ _ hr
   ·simp at hd
  ·simp at hd
 ·rename_i src dst x ho;split at hd
  ·rename_i dx hx;obtain⟨rfl,hv⟩:=ll T R hd (aI R.inv ht hx);exact .same R (by unfold execOp;simp only[ho]) hv
  ·simp at hd
 ·rename_i fn first captured ho;split at hd
  ·rename_i xs ys hx hy;simp only[kA,kB] at hd;obtain⟨rfl,rfl⟩:=hd;refine .same R (by unfold execOp;simp only[ho];rfl) ⟨.func fn (first.map a.eval) (captured.map a.eval),rfl,?_⟩;simp only[V];exact⟨first.toList.map a.eval,captured.toList.map a.eval,by congr 1<;>(apply Array.ext';simp),b9 R.inv ht hx,b9 R.inv ht hy⟩
  ·simp at hd
 ·rename_i t r ho;have ha:dH o.op=true:=by rw[ho];rfl
  obtain⟨box,rfl,s,he,hs⟩:=i6 T R.inv ht ha (show aop P ti tmps h id o=some (d,h') by unfold aop;simp only[ho];exact hd);exact .made he (hs.made R hf hn)
 ·rename_i t l cc ho;have ha:dH o.op=true:=by rw[ho];rfl
  obtain⟨box,rfl,s,he,hs⟩:=i6 T R.inv ht ha (show aop P ti tmps h id o=some (d,h') by unfold aop;simp only[ho];exact hd);exact .made he (hs.made R hf hn)
 ·rename_i t x lo hi mx ho;split at hd
  ·rename_i dx l hh m hx hl hhi hm;obtain⟨d',h1,h2⟩:=map_some hd;simp only[kB] at h2;obtain⟨rfl,rfl⟩:=h2;exact .same R (by unfold execOp;simp only[ho]) (oa T h1 (aI R.inv ht hx) (ii R.inv ht hl) (ii R.inv ht hhi) (ii R.inv ht hm))
  ·simp at hd
 ·rename_i t x f ho;split at hd
  ·rename_i dx hx;obtain⟨d',h1,h2⟩:=map_some hd;simp only[kB] at h2;obtain⟨rfl,rfl⟩:=h2;exact .same R (by unfold execOp;simp only[ho]) (ji T h1 (aI R.inv ht hx))
  ·simp at hd
 ·rename_i t x f ho;split at hd
  ·rename_i dx hx;obtain⟨d',h1,h2⟩:=map_some hd;simp only[kB] at h2;obtain⟨rfl,rfl⟩:=h2;exact .same R (by unfold execOp;simp only[ho]) (o8 T h1 (aI R.inv ht hx))
  ·simp at hd
 ·rename_i t x i ho;split at hd
  ·rename_i dx dy hx hy;obtain⟨d',h1,h2⟩:=map_some hd;simp only[kB] at h2;obtain⟨rfl,rfl⟩:=h2;exact .same R (by unfold execOp;simp only[ho]) (jg T h1 (aI R.inv ht hx) (aI R.inv ht hy))
  ·simp at hd
 ·rename_i t x i ho;split at hd
  ·rename_i dx dy hx hy;obtain⟨d',h1,h2⟩:=map_some hd;simp only[kB] at h2;obtain⟨rfl,rfl⟩:=h2;exact .same R (by unfold execOp;simp only[ho]) (o4 T h1 (aI R.inv ht hx) (aI R.inv ht hy))
  ·simp at hd
 ·rename_i t x i ok ho;split at hd
  ·rename_i dx dy hx hy;obtain⟨d',h1,h2⟩:=map_some hd;simp only[kB] at h2;obtain⟨rfl,rfl⟩:=h2;exact .same R (by unfold execOp;simp only[ho]) (nD T R h1 (aI R.inv ht hx) (aI R.inv ht hy))
  ·simp at hd
 ·rename_i t m k x ho;split at hd
  ·rename_i dm dk dx hm hk hx;obtain⟨d',h1,h2⟩:=map_some hd;simp only[kB] at h2;obtain⟨rfl,rfl⟩:=h2;exact .unit (by unfold execOp;simp only[ho]) (nB T R h1 (aI R.inv ht hm) (aI R.inv ht hk) (aI R.inv ht hx))
  ·simp at hd
 ·rename_i t m k x ho;split at hd
  ·rename_i dm dk dx hm hk hx;obtain⟨d',h1,h2⟩:=map_some hd;simp only[kB] at h2;obtain⟨rfl,rfl⟩:=h2;exact .unit (by unfold execOp;simp only[ho]) (nB T R h1 (aI R.inv ht hm) (aI R.inv ht hk) (aI R.inv ht hx))
  ·simp at hd
 ·rename_i x i ho;split at hd
  ·rename_i cs hx;obtain⟨d',h1,h2⟩:=map_some hd;simp only[kB] at h2;obtain⟨rfl,rfl⟩:=h2;have hv:=aI R.inv ht hx;simp only[V] at hv;obtain⟨ys,hv,hvs⟩:=hv;obtain⟨y,hy,hyv⟩:=hvs.get i _ h1;refine .same R (by unfold execOp;simp only[ho];rfl) ⟨y,?_,hyv⟩;rw[hv];simp[Instr.extract,hy]
  ·simp at hd
 ·rename_i cl ho;split at hd
  ·rename_i b hc;split at hd
   ·rename_i ds hds;exact sB T R hf hn ho hc (b9 R.inv ht hds) hd
   ·simp at hd
  ·simp at hd
 ·rename_i t x ho;split at hd
  ·rename_i dx hx;obtain⟨d',h1,h2⟩:=map_some hd;simp only[kB] at h2;obtain⟨rfl,rfl⟩:=h2;exact .same R (by unfold execOp;simp only[ho]) (o5 T h1 (aI R.inv ht hx))
  ·simp at hd
 ·rename_i t x ho;split at hd
  ·rename_i dx hx;exact .made (by unfold execOp;simp only[ho]) (v6 T R hf hn hd (aI R.inv ht hx))
  ·simp at hd
 ·rename_i x ho;split at hd
  ·rename_i dx hx;obtain⟨d',h1,h2⟩:=map_some hd;simp only[kB] at h2;obtain⟨rfl,rfl⟩:=h2;exact .same R (by unfold execOp;simp only[ho]) (xJ R h1 (aI R.inv ht hx))
  ·simp at hd
 ·rename_i x ho;split at hd
  ·rename_i dx hx;obtain⟨d',h1,h2⟩:=map_some hd;simp only[kB] at h2;obtain⟨rfl,rfl⟩:=h2;exact .same R (s:=Instr.next (a.eval x) false o.type) (by unfold execOp;simp only[ho]) (wR R h1 (aI R.inv ht hx) o.type)
  ·simp at hd
 ·simp at hd
end
end Go.Am
/-
 The abstract machine,part 12: calls,regions in the order of the text,code;a function's contract out of its body.
-/
namespace Go.Am
variable [GT]
def WF (ro:Option Nat):Fence:={ Fence.wide with round:=ro }
theorem uq {ro:Option Nat}{n:Nat}{P:Program}{f:FuncId}{args:Array Value}{w:World}{R:Ending->World->Prop}(h:Calls P f args w R):CallsIn (WF ro) n P f args w R:=
 (callsIn_wide (n:=n)).2 h
def dK (P:Program) (f:FuncId):Bool:=
 match P.funcs[f]? with
 | some fn=>fn.body.isSome&&!(fn.name == "runtime.NumGoroutine")
 | none=>false
theorem eY {P:Program}{f:FuncId}(h:dK P f=true) (args:Array Value) (w:World):(callFunc f args).run P w=.ok (.enter f args) w:=by
 unfold dK at h;split at h
 ·rename_i fn hf;simp only[kC,Bool.not_eq_true'] at h;obtain⟨h1,h2⟩:=h
  have h2':¬fn.name = "runtime.NumGoroutine":=by simpa using h2
  have h3:¬fn.body=none:=by cases hb:fn.body<;>simp[hb] at h1 ⊢
  unfold callFunc;simp[hf,h2',h3]
 ·simp at h
inductive Cal where
 | fn (g:FuncId)
 | yf (id:Nat)
 deriving Inhabited
def sX (P:Program) (t:TypeId) (nm:String):Option FuncId:=
 match P.info? t with
 | some i=>
  match i.methods.find? (·.name == nm) with
  | some m=>
   match m.path.toList with
   | []=>
    match m.func with
    | some (f,false)=>(match P.underlying t with|some (.pointer _)=>none|some _=>some f|none=>none)
    | some (f,true)=>(match P.underlying t with|some (.pointer _)=>some f|_=>none)
    | none=>none
   | _=>none
  | none=>none
 | none=>none
theorem vj {P:Program}{w:World}:(program:Sem Program).run P w=.ok P w:=rfl
theorem Bb {P:Program}{t:TypeId}{nm:String}{f:FuncId}(h:sX P t nm=some f) (fuel:Nat) (v:Value) (w:World):(method (fuel+1) t v nm).run P w=.ok (f,v) w:=by
 unfold sX at h;split at h
 ·rename_i i hi;split at h
  ·rename_i m hm;split at h
   ·rename_i hp
    have ht:(typeInfo t).run P w=.ok i w:=by
     unfold typeInfo;simp only[Sem.run_bind,vj,Result.andThen,hi,Sem.run_pure]
    unfold method;simp only[Sem.run_bind,ht,Result.andThen,hm,hp,follow,Sem.run_pure];split at h
    ·rename_i g hf;split at h
     ·cases h
     ·rename_i u hne hu;injection h with h;subst h
      simp only[hf,receiverAt,Sem.run_bind,run_underlying hu,Result.andThen];cases u<;>first|rfl|exact absurd rfl (hne _)
     ·cases h
    ·rename_i g hf;split at h
     ·rename_i e hu;injection h with h;subst h
      simp only[hf,receiverAt,Sem.run_bind,run_underlying hu,Result.andThen,Sem.run_pure,Place.get]
     ·cases h
    ·cases h
   ·cases h
  ·cases h
 ·cases h
def bc (P:Program) (tmps:List D) (o:Oper):Option (Cal×List D):=
 match o.op with
 | .call c=>
  match c.callee with
  | .value f=>
   match ev tmps f,evs tmps c.args.toList with
   | some (.fn (.func g) first captured),some ds=>some (.fn g,first++ds++captured)
   | some (.yf id),some ds=>some (.yf id,ds)
   | _,_=>none
  | .invoke r nm=>
   match ev tmps r,evs tmps c.args.toList with
   | some (.iface t d),some ds=>(match sX P t nm with|some g=>some (.fn g,d::ds)|none=>none)
   | _,_=>none
  | _=>none
 | _=>none
def AC1 (P:Program) (g:FuncId) (ds:List D) (h:aB) (d:D) (h':aB):Prop:=
 dK P g=true∧∀ c vs,Rel c h->VS c ds vs->Calls P g vs.toArray c.w (λe w'=>∃ v c',e=.returned v∧c'.w=w'∧V c' d v∧Rel c' h'∧aZ c h c' h'∧∀ j,j<h.next->c'.φ j=c.φ j)
def Y1 (P:Program) (id:Nat) (ds:List D) (h:aB) (d:D) (h':aB):Prop:=
 ∀ c vs b,Rel c h->VS c ds vs->c.φ id=some (b,0)->∃ f tmps assign body,(Instr.yield b vs.toArray).run P c.w=.ok (.round b f tmps assign body) c.w ∧
  ∀ ro n,RoundIn (WF ro) n P b f tmps assign body c.w (λe w'=>∃ v c',e=.returned v∧c'.w=w'∧V c' d v∧Rel c' h'∧aZ c h c' h'∧∀ j,j<h.next->c'.φ j=c.φ j)
def CC (P:Program):Cal->List D->aB->D->aB->Prop
 | .fn g=>AC1 P g
 | .yf id=>Y1 P id
abbrev Cl:=Cal->List D->aB->Option (D×aB)
def gm (P:Program) (cl:Cl):Prop:=∀ k ds h d h',cl k ds h=some (d,h')->CC P k ds h d h'
def u5 (P:Program) (k:Cal) (ds:List D) (h:aB):Option (D×aB):=
 match k with
 | .yf _=>none
 | .fn g=>
 match f8 ds with
 | some vs=>match av P (callFunc g vs.toArray) with|some (.value r)=>(ofV r).map (·,h)|_=>none
 | none=>none
def bU (P:Program) (ti:TI) (cl:Cl) (tmps:List D) (h:aB) (id:Nat) (o:Oper):Option (D×aB):=
 match bc P tmps o with
 | some (g,ds)=>match cl g ds h with|some r=>some r|none=>u5 P g ds h
 | none=>aop P ti tmps h id o
section
variable {P:Program}{ti:TI}{cl:Cl}{c:Ctx}{h:aB}{ro:Option Nat}{n:Nat}
theorem fy {a:Act}{o:Oper}{id:Nat}{d:D}{h':aB}(hnd:∀ cc,o.op≠.defer cc) (hok:pO P a o c h id d h'){K:Act->World->Prop}{Q:Exit->Act->World->Prop}
  (hK:∀ v c',V c' d v->Rel c' h'->aZ c h c' h'->(∀ j,j<h.next->j≠id->c'.φ j=c.φ j)->K (a.put o.dst v) c'.w):o.wpIn (WF ro) n P a c.w K Q:=by
 obtain⟨nx,v,c',h1,h2,h3,h4,h5,h6⟩:=hok;refine⟨λ_ _=>trivial,?_⟩;rw[Oper.semAt_eq _ _ _ hnd,h1];rcases h2 with rfl|⟨rfl,rfl⟩
 ·exact hK v c' h3 h4 h5 (λj _ hj=>h6 j hj)
 ·exact hK undef c' h3 h4 h5 (λj _ hj=>h6 j hj)
theorem uy {tmps:List D}{id:Nat}{o:Oper}{r:D×aB}(h1:aop P ti tmps h id o=some r):∀ cc,o.op≠.defer cc:=λcc hc=>by
 unfold aop at h1;simp only[hc] at h1;simp at h1
theorem At {a:Act}{o:Oper}{cl':Call}{f:Operand}{b:Nat}{vs:List Value}(ho:o.op=.call cl') (hc:cl'.callee=.value f) (hf:a.eval f=.func (.yield b) #[] #[])
  (hargs:cl'.args.toList.map a.eval=vs) (w:World):(execOp a.eval o).run P w=(Instr.yield b vs.toArray).run P w:=by
 unfold execOp;simp only[ho,resolve,hc,Sem.run_bind,hf,Deferred.ofValue,Sem.run_pure,Result.andThen,invoke];congr 2;apply Array.ext';subst hargs;simp
theorem El {a:Act}{o:Oper}{cl':Call}{f:Operand}{g:FuncId}{first captured vs:List Value}(ho:o.op=.call cl') (hc:cl'.callee=.value f) (hf:a.eval f=.func (.func g) first.toArray captured.toArray)
  (hargs:cl'.args.toList.map a.eval=vs) (w:World):(execOp a.eval o).run P w=(callFunc g (first++vs++captured).toArray).run P w:=by
 unfold execOp;simp only[ho,resolve,hc,Sem.run_bind,hf,Deferred.ofValue,Sem.run_pure,Result.andThen,invoke];congr 2;apply Array.ext';subst hargs;simp
theorem pJ {a:Act}{o:Oper}{cl':Call}{r:Operand}{nm:String}{t:TypeId}{x:Value}{g:FuncId}{vs:List Value}(ho:o.op=.call cl') (hc:cl'.callee=.invoke r nm) (hf:a.eval r=.iface t x) (hm:sX P t nm=some g)
  (hargs:cl'.args.toList.map a.eval=vs) (w:World):(execOp a.eval o).run P w=(callFunc g (x::vs).toArray).run P w:=by
 unfold execOp;simp only[ho,resolve,hc,Sem.run_bind,hf,Sem.run_pure,Result.andThen,invoke];have e0:(#[Value.iface t x]++cl'.args.map a.eval)[0]?=some (Value.iface t x):=by rw[Array.getElem?_append_left si];rfl
 simp only[e0,callMethod,Sem.run_bind,vj,Result.andThen];rw[show P.types.size+Made.depth=(P.types.size+99)+1 from rfl,Bb hm];show Sem.run P (callFunc g (#[x]++(#[Value.iface t x]++Array.map a.eval cl'.args).extract 1 (#[Value.iface t x]++Array.map a.eval cl'.args).size)) w=_;congr 2;apply Array.ext';subst hargs;simp;rw[kE si]
theorem jz (T:TOk P ti) (C:gm P cl) (R:Rel c h){id:Nat}(hf:c.φ id=none) (hn:id<h.next){tmps:List D}{a:Act}(ht:VS c tmps a.tmps.toList){o:Oper}{d:D}{h':aB}
  (hd:bU P ti cl tmps h id o=some (d,h')) {K:Act->World->Prop} {Q:Exit->Act->World->Prop}
  (hK:∀ v c',V c' d v->Rel c' h'->aZ c h c' h'->(∀ j,j<h.next->j≠id->c'.φ j=c.φ j)->K (a.put o.dst v) c'.w):o.wpIn (WF ro) n P a c.w K Q:=by
 unfold bU at hd;split at hd
 ·rename_i g ds hac;unfold bc at hac;split at hac
  ·rename_i cc ho;have hnd:∀ cc,o.op≠.defer cc:=λcc hcc=>by rw[ho] at hcc;cases hcc
   split at hac
   ·rename_i f hcal;split at hac
    ·rename_i g' first captured ds' hfv hds;simp only[kA,kB] at hac;obtain⟨rfl,rfl⟩:=hac;have hv:=aI R.inv ht hfv;simp only[V] at hv;obtain⟨xs,ys,hv,h1,h2⟩:=hv;have hargs:=b9 R.inv ht hds;have hall:VS c (first++ds' ++ captured) (xs++cc.args.toList.map a.eval++ys):=(h1.append hargs).append h2;have hrun:=El (P:=P) ho hcal hv rfl c.w;split at hd
     ·rename_i r hr;obtain⟨d0,h0⟩:=r;simp only[kA,kB] at hd;obtain⟨rfl,rfl⟩:=hd;obtain⟨hent,hcall⟩:=C _ _ _ _ _ hr;refine⟨λ_ _=>trivial,?_⟩;rw[Oper.semAt_eq _ _ _ hnd,hrun,eY hent];refine⟨λhx=>by simp[WF,Fence.wide] at hx,uq ((hcall c _ R hall).mono ?_)⟩;rintro e w' ⟨v,c',rfl,rfl,k1,k2,k3,k4⟩;exact hK v c' k1 k2 k3 (λj hj _=>k4 j hj)
     ·simp only[u5] at hd;split at hd
      ·rename_i vs hvs;split at hd
       ·rename_i r hr;obtain⟨d',e1,e2⟩:=map_some hd;simp only[kB] at e2;obtain⟨rfl,rfl⟩:=e2;refine⟨λ_ _=>trivial,?_⟩;rw[Oper.semAt_eq _ _ _ hnd,hrun,cQ hvs hall,b8 _ _ hr];exact hK r c (bY c r _ e1) R (aZ.refl c h) (λ_ _ _=>rfl)
       ·simp at hd
      ·simp at hd
    ·rename_i yid ds' hfv hds;simp only[kA,kB] at hac;obtain⟨rfl,rfl⟩:=hac;have hv:=aI R.inv ht hfv;simp only[V] at hv;obtain⟨b,hφ,hv⟩:=hv;have hargs:=b9 R.inv ht hds;have hrun:=At (P:=P) ho hcal hv rfl c.w;split at hd
     ·rename_i r hr;obtain⟨d0,h0⟩:=r;simp only[kA,kB] at hd;obtain⟨rfl,rfl⟩:=hd;obtain⟨ff,tm,as,bd,hy,hround⟩:=C _ _ _ _ _ hr c _ b R hargs hφ;refine⟨λ_ _=>trivial,?_⟩;rw[Oper.semAt_eq _ _ _ hnd,hrun,hy];refine⟨λhx=>by simp[WF,Fence.wide] at hx,(hround ro (n-1)).mono ?_⟩;rintro e w' ⟨v,c',rfl,rfl,k1,k2,k3,k4⟩;exact hK v c' k1 k2 k3 (λj hj _=>k4 j hj)
     ·simp[u5] at hd
    ·simp at hac
   ·rename_i r nm hcal;split at hac
    ·rename_i t d0 ds' hfv hds;split at hac
     ·rename_i g' hm;simp only[kA,kB] at hac;obtain⟨rfl,rfl⟩:=hac;have hv:=aI R.inv ht hfv;simp only[V] at hv;obtain⟨x,hv,h1⟩:=hv;have hargs:=b9 R.inv ht hds;have hall:VS c (d0::ds') (x::cc.args.toList.map a.eval):=VS.cons h1 hargs;have hrun:=pJ (P:=P) ho hcal hv hm rfl c.w;split at hd
      ·rename_i r hr;obtain⟨d1,h0⟩:=r;simp only[kA,kB] at hd;obtain⟨rfl,rfl⟩:=hd;obtain⟨hent,hcall⟩:=C _ _ _ _ _ hr;refine⟨λ_ _=>trivial,?_⟩;rw[Oper.semAt_eq _ _ _ hnd,hrun,eY hent];refine⟨λhx=>by simp[WF,Fence.wide] at hx,uq ((hcall c _ R hall).mono ?_)⟩;rintro e w' ⟨v,c',rfl,rfl,k1,k2,k3,k4⟩;exact hK v c' k1 k2 k3 (λj hj _=>k4 j hj)
      ·simp only[u5] at hd;split at hd
       ·rename_i vs hvs;split at hd
        ·rename_i r hr;obtain⟨d',e1,e2⟩:=map_some hd;simp only[kB] at e2;obtain⟨rfl,rfl⟩:=e2;refine⟨λ_ _=>trivial,?_⟩;rw[Oper.semAt_eq _ _ _ hnd,hrun,cQ hvs hall,b8 _ _ hr];exact hK r c (bY c r _ e1) R (aZ.refl c h) (λ_ _ _=>rfl)
        ·simp at hd
       ·simp at hd
     ·simp at hac
    ·simp at hac
   ·simp at hac
  ·simp at hac
 ·exact fy (uy hd) (tL T R hf hn ht hd) hK
end
structure St where
 tmps:List D
 h:aB
def dp (tmps:List D) (dst:Option Tmp) (d:D):List D:=
 match dst with
 | some t=>tmps.set t d
 | none=>tmps
def jt (ops:Array Oper) (tmps:List D) (j:Nat):Option (Option Bool):=
 match(ops[j]?).bind (·.dst) with
 | some t=>match tmps[t]? with|some (.v (.bool b))=>some (some b)|some .any=>none|_=>some none
 | none=>some none
def af (ops:Array Oper) (tmps:List D) (o:Oper):Option Bool:=
 match o.guard with
 | none=>some true
 | some (j,want)=>(jt ops tmps j).map (· == some want)
def bump (h:aB) (k:Nat):aB:=⟨h.next+k,h.bs⟩
def fr (P:Program) (ti:TI) (cl:Cl) (ops:Array Oper):List Oper->St->Option St
 | [],s=>some s
 | o::rest,s=>
  match af ops s.tmps o with
  | some true=>
   match bU P ti cl s.tmps (bump s.h 1) s.h.next o with
   | some (d,h')=>fr P ti cl ops rest ⟨dp s.tmps o.dst d,h'⟩
   | none=>none
  | some false=>fr P ti cl ops rest ⟨dp s.tmps o.dst aM,s.h⟩
  | none=>none
section
variable {P:Program}{ti:TI}{cl:Cl}{c:Ctx}{h:aB}{ro:Option Nat}{n:Nat}
theorem bg {tmps:List D}{a:Act}{dst:Option Tmp}{d:D}{v:Value}(ht:VS c tmps a.tmps.toList) (hv:V c d v):VS c (dp tmps dst d) (a.put dst v).tmps.toList:=by
 cases dst with
 | none=>exact ht
 | some t=>simpa [dp,Act.put,Array.toList_setIfInBounds] using ht.set t hv
theorem rt {ops:Array Oper}{tmps:List D}{a:Act}(ht:VS c tmps a.tmps.toList){j:Nat}{r:Option Bool}(hy:jt ops tmps j=some r):yielded ops a.tmps j=r:=by
 unfold yielded;unfold jt at hy;cases hd:(ops[j]?).bind (·.dst) with
 | none=>simp only[hd,kA] at hy;subst hy;simp
 | some t=>
  simp only[hd] at hy;simp only[Option.bind_some];cases hx:tmps[t]? with
  | none=>
   simp only[hx,kA] at hy;subst hy;have hl:=ht.length
   have:a.tmps[t]?=none:=by rw[List.getElem?_eq_none_iff] at hx;rw[Array.getElem?_eq_none_iff];simp at hl;omega
   simp[this]
  | some d=>
   obtain⟨y,hy',hv⟩:=ht.get t d hx;rw[Array.getElem?_toList] at hy';rw[hy'];simp only[hx] at hy;cases d with
   | v x=>simp only[V] at hv;obtain⟨_,rfl⟩:=hv;cases y<;>simp only[kA] at hy<;>subst hy<;>rfl
   | str s=>simp only[V] at hv;subst hv;simpa using hy
   | imm n cs=>simp only[V] at hv;obtain⟨_,_,_,rfl,_⟩:=hv;simpa using hy
   | iptr cs=>simp only[V] at hv;obtain⟨_,_,_,rfl,_⟩:=hv;simpa using hy
   | sl id off n cap es ex=>simp only[V] at hv;obtain⟨_,_,_,_,_,_,rfl,_⟩:=hv;simpa using hy
   | ptr id off=>simp only[V] at hv;obtain⟨_,_,_,rfl⟩:=hv;simpa using hy
   | agg cs=>simp only[V] at hv;obtain⟨_,rfl,_⟩:=hv;simpa using hy
   | tup cs=>simp only[V] at hv;obtain⟨_,rfl,_⟩:=hv;simpa using hy
   | fn f a b=>simp only[V] at hv;obtain⟨_,_,rfl,_⟩:=hv;simpa using hy
   | map id=>simp only[V] at hv;obtain⟨_,_,rfl⟩:=hv;simpa using hy
   | iface t d=>simp only[V] at hv;obtain⟨_,rfl,_⟩:=hv;simpa using hy
   | e0=>simp only[V] at hv;obtain⟨_,rfl⟩:=hv;simpa using hy
   | any=>simp at hy
   | yf id=>simp only[V] at hv;obtain⟨_,_,rfl⟩:=hv;simpa using hy
   | zs b=>simp only[V] at hv;obtain⟨_,_,rfl,_⟩:=hv;simpa using hy
theorem bO {ops:Array Oper}{tmps:List D}{a:Act}(ht:VS c tmps a.tmps.toList){o:Oper}{b:Bool}(hw:af ops tmps o=some b):Region.wanted o (yielded ops a.tmps)=b:=by
 unfold af at hw;unfold Region.wanted;cases hg:o.guard with
 | none=>simp only[hg,kA] at hw;exact hw
 | some p=>
  obtain⟨j,want⟩:=p;simp only[hg,kJ] at hw;obtain⟨r,h1,h2⟩:=hw;simp only[rt ht h1,h2]
structure Fit (c:Ctx) (s:St) (a:Act):Prop where
 rel:Rel c s.h
 tmps:VS c s.tmps a.tmps.toList
theorem Rel.bump {k:Nat}(R:Rel c h):Rel c (bump h k):=R.next (Nat.le_add_right _ _)
theorem aZ.bump {c':Ctx}{h':aB}{k:Nat}(g:aZ c (bump h k) c' h'):aZ c h c' h':=
 ⟨g.keeps,g.os,g.tape,g.output,g.size,Nat.le_trans (Nat.le_add_right _ _) g.next,g.frame,g.own,g.stable⟩
theorem n9 (T:TOk P ti) (C:gm P cl) (ops:Array Oper):∀ (l:List Oper) (s s':St) (c:Ctx) (a:Act) (Q:Exit->Act->World->Prop),fr P ti cl ops l s=some s'->Fit c s a ->
  (∀ c' a',Fit c' s' a'->aZ c s.h c' s'.h->(∀ j,j<s.h.next->c'.φ j=c.φ j)->a'.defers=a.defers->Q .normal a' c'.w)->wpListIn (WF ro) n P ops Q l a c.w
 | [],s,s',c,a,Q,hr,hfit,hQ=>by
  simp only[fr,kA] at hr;subst hr;exact hQ c a hfit (aZ.refl _ _) (λ_ _=>rfl) rfl
 | o::l,s,s',c,a,Q,hr,hfit,hQ=>by
  simp only[fr] at hr;simp only[wpListIn];split at hr
  ·rename_i hw;rw[bO hfit.tmps hw,if_pos rfl];split at hr
   ·rename_i d h' hd;refine jz T C hfit.rel.bump (hfit.rel.fresh _ (kP _)) (by simp[bump]) hfit.tmps hd λv c' k1 k2 k3 k4=>?_
    refine n9 T C ops l _ s' c' (a.put o.dst v) Q hr ⟨k2,bg (VS.keep k3.keeps _ _ hfit.tmps) k1⟩ λc2 a2 f2 g2 p2 df2=>?_
    refine hQ c2 a2 f2 (k3.bump.trans g2) (λj hj=>?_) (by rw[df2];cases o.dst<;>rfl);have h1:j<h'.next:=by have:=k3.next;simp only[bump] at this;omega
    rw[p2 j h1,k4 j (by simp only[bump];omega) om]
   ·simp at hr
  ·rename_i hw;rw[bO hfit.tmps hw,if_neg si];refine⟨λ_ _=>trivial,n9 T C ops l _ s' c (a.put o.dst undef) Q hr ⟨hfit.rel,bg hfit.tmps V.undef⟩ λc2 a2 f2 g2 p2 df2=>?_⟩;exact hQ c2 a2 f2 g2 p2 (by rw[df2];cases o.dst<;>rfl)
  ·simp at hr
end
end Go.Am
/-
 The abstract machine,part 13: what an operation depends on: its operands alone;the heap not at all,or only what it reads.
-/
namespace Go.Am
variable [GT]
inductive Kd where
 | pure|read|alloc|write
def kind (o:Oper):Kd:=
 match o.op with
 | .move _|.assign _|.pick _ _ _|.build _ _|.nilCheck _|.binOp _ _ _ _ _|.unOp _ _ _|.makeFunc _ _ _|.slice _ _ _ _ _|.fieldAddr _ _ _|.field _ _ _|.indexAddr _ _ _|.index _ _ _|.extract _ _|.makeInterface _ _=>.pure
 | .load _ _|.lookup _ _ _ _|.convert _ _ _=>.read
 | .alloc _|.box _ _|.buildSlice _ _ _|.makeMap _ _|.makeSlice _ _ _=>.alloc
 | .call c=>match c.callee with|.builtin .len=>.read|.builtin .min=>.pure|.builtin .max=>.pure|_=>.write
 | _=>.write
section
variable {P:Program}{ti:TI}{cl:Cl}
theorem gL {t1 t2:List D}:∀ {xs:List Operand},(∀ x∈xs,ev t1 x=ev t2 x)->evs t1 xs=evs t2 xs
 | [],_=>rfl
 | x::xs,h=>by simp only[evs];rw[h x si,gL λy hy=>h y (by simp[hy])]
theorem kW {t1 t2:List D}:∀ {ps:List (Nat×Operand)},(∀ p∈ps,ev t1 p.2=ev t2 p.2)->gU t1 ps=gU t2 ps
 | [],_=>rfl
 | (i,x)::ps,h=>by simp only[gU];rw[h (i,x) si,kW λy hy=>h y (by simp[hy])]
theorem oQ {t1 t2:List D}{h:aB}{id:Nat}{o:Oper}(he:∀ x∈o.op.operands,ev t1 x=ev t2 x):aop P ti t1 h id o=aop P ti t2 h id o:=by
 obtain⟨dst,op,type,pos,after,guard⟩:=o;cases op<;>simp only[Op.operands] at he<;>simp only[aop]
 case move x=>rw[he x si]
 case assign x=>rw[he x si]
 case pick c a b=>rw[he c si,he a si,he b si]
 case box t x=>rw[he x si]
 case build t ps=>rw[kW λp hp=>he p.2 (by simp;exact⟨p.1,by simpa using hp⟩)]
 case buildSlice t n ps=>rw[kW λp hp=>he p.2 (by simp;exact⟨p.1,by simpa using hp⟩)]
 case load t x=>rw[he x si]
 case store t x y=>rw[he x si,he y si]
 case nilCheck x=>rw[he x si]
 case binOp op t x y yt=>rw[he x si,he y si]
 case unOp op t x=>rw[he x si]
 case convert s d x=>rw[he x si]
 case makeFunc f a b=>rw[gL (xs:=a.toList) λx hx=>he x (by simp at hx;simp[hx]),gL (xs:=b.toList) λx hx=>he x (by simp at hx;simp[hx])]
 case makeMap t r=>
  cases r with
  | none=>rfl
  | some x=>simp only;rw[he x si]
 case makeSlice t x y=>rw[he x si,he y si]
 case slice t x lo hi mx=>cases lo<;>cases hi<;>cases mx<;>simp_all
 case fieldAddr t x f=>rw[he x si]
 case field t x f=>rw[he x si]
 case indexAddr t x y=>rw[he x si,he y si]
 case index t x y=>rw[he x si,he y si]
 case lookup t x y ok=>rw[he x si,he y si]
 case mapUpdate t x y z=>rw[he x si,he y si,he z si]
 case insert t x y z=>rw[he x si,he y si,he z si]
 case extract x i=>rw[he x si]
 case makeInterface t x=>rw[he x si]
 case range t x=>rw[he x si]
 case entry x=>rw[he x si]
 case next x b=>
  cases b<;>simp only;rw[he x si]
 case call c=>
  cases hc:c.callee<;>simp only;rw[gL (xs:=c.args.toList) λx hx=>he x (by simp[Call.operands,hc];simpa using hx)]
theorem xm {t1 t2:List D}{o:Oper}(he:∀ x∈o.op.operands,ev t1 x=ev t2 x):bc P t1 o=bc P t2 o:=by
 unfold bc;cases ho:o.op<;>simp only;rename_i c;cases hc:c.callee<;>simp only
 all_goals
  rename_i f;simp only[ho,Op.operands,Call.operands,hc] at he
  try rw[he f si,gL (xs:=c.args.toList) λx hx=>he x (by simp;right;simpa using hx)]
 rename_i r;rw[he r si,gL (xs:=c.args.toList) λx hx=>he x (by simp;right;simpa using hx)]
theorem vU {t1 t2:List D}{h:aB}{id:Nat}{o:Oper}(he:∀ x∈o.op.operands,ev t1 x=ev t2 x):bU P ti cl t1 h id o=bU P ti cl t2 h id o:=by
 unfold bU;rw[xm he,oQ he]
theorem rY {tm:List D}{h h':aB}{id:Nat}{o:Oper}{d:D}(hk:kind o=.pure) (hd:aop P ti tm h id o=some (d,h')):∀ h2 id2,aop P ti tm h2 id2 o=some (d,h2):=by
 intro h2 id2;obtain⟨dst,op,type,pos,after,guard⟩:=o
 have mp:∀ {x:Option D},x.map (·,h)=some (d,h')->x.map (·,h2)=some (d,h2):=λ{x} hx=>by
  obtain⟨y,h1,h3⟩:=map_some hx;simp only[kB] at h3;rw[h1,<-h3.1];rfl
 cases op<;>simp only[kind,reduceCtorEq] at hk<;>simp only[aop] at hd ⊢
 case move x=>exact mp hd
 case assign x=>exact mp hd
 case pick c a b=>split at hd<;>first|exact mp hd|simp at hd
 case build t ps=>split at hd<;>first|exact mp hd|simp at hd
 case nilCheck x=>split at hd<;>first|exact mp hd|simp at hd
 case binOp op t x y yt=>split at hd<;>first|exact mp hd|simp at hd
 case unOp op t x=>
  split at hd
  ·split at hd<;>first|exact mp hd|simp at hd
  ·simp at hd
 case makeFunc f a b=>
  split at hd
  ·simp only[kA,kB] at hd ⊢;exact⟨hd.1,trivial⟩
  ·simp at hd
 case slice t x lo hi mx=>split at hd<;>first|exact mp hd|simp at hd
 case fieldAddr t x f=>split at hd<;>first|exact mp hd|simp at hd
 case field t x f=>split at hd<;>first|exact mp hd|simp at hd
 case indexAddr t x y=>split at hd<;>first|exact mp hd|simp at hd
 case index t x y=>split at hd<;>first|exact mp hd|simp at hd
 case extract x i=>split at hd<;>first|exact mp hd|simp at hd
 case makeInterface t x=>split at hd<;>first|exact mp hd|simp at hd
 case call c=>
  cases hc:c.callee with
  | builtin b=>
   simp only[hc] at hk hd ⊢;split at hd
   ·rename_i ds hds;cases b<;>simp only[reduceCtorEq] at hk
    ·simp only[ao] at hd ⊢;split at hd
     ·split at hd<;>first|exact mp hd|simp at hd
     ·simp at hd
    ·simp only[ao] at hd ⊢;split at hd
     ·split at hd<;>first|exact mp hd|simp at hd
     ·simp at hd
   ·simp at hd
  | value f=>simp[hc] at hk
  | invoke r m=>simp[hc] at hk
theorem q9 {o:Oper}(hk:kind o=.alloc):dH o.op=true:=by
 unfold kind at hk;split at hk<;>simp_all [dH];split at hk<;>simp at hk
theorem lV {tm:List D}{h h':aB}{id:Nat}{o:Oper}{d:D}(hk:kind o=.alloc) (hd:aop P ti tm h id o=some (d,h')):∃ box,∀ h2,aop P ti tm h2 id o=some (d,h2.put id box):=by
 obtain⟨dst,op,type,pos,after,guard⟩:=o;cases op<;>simp only[kind,reduceCtorEq] at hk<;>simp only[aop] at hd ⊢
 case alloc t=>obtain⟨x,h1,h2⟩:=map_some hd;simp only[kB] at h2;exact⟨_,λh3=>by rw[h1,<-h2.1];rfl⟩
 case box t x=>obtain⟨y,h1,h2⟩:=map_some hd;simp only[kB] at h2;exact⟨_,λh3=>by rw[h1,<-h2.1];rfl⟩
 case buildSlice t n ps=>
  split at hd
  ·unfold eS at hd ⊢;split at hd
   ·split at hd
    ·split at hd
     ·split at hd
      ·rename_i hc;split at hd
       ·rename_i cs _;simp only[kA,kB] at hd;exact⟨.cells cs true,λh3=>by rw[if_pos hc];simp only[kA,kB];exact⟨hd.1,trivial⟩⟩
       ·simp at hd
      ·simp at hd
     ·simp at hd
    ·simp at hd
   ·simp at hd
  ·simp at hd
 case makeMap t r=>
  cases r with
  | none=>simp only[kA,kB] at hd ⊢;exact⟨_,λh3=>⟨hd.1,rfl⟩⟩
  | some x=>
   simp only at hd ⊢;split at hd
   ·split at hd
    ·simp only[kA,kB] at hd ⊢;exact⟨_,λh3=>⟨hd.1,rfl⟩⟩
    ·simp at hd
   ·simp at hd
 case makeSlice t x y=>
  split at hd
  ·unfold dU at hd ⊢;split at hd
   ·split at hd
    ·split at hd
     ·split at hd
      ·rename_i hc;simp only[kA,kB] at hd;exact⟨_,λh3=>by rw[if_pos hc];simp only[kA,kB];exact⟨hd.1,rfl⟩⟩
      ·simp at hd
     ·simp at hd
    ·simp at hd
   ·simp at hd
  ·simp at hd
 case call c=>cases hc:c.callee with
  | builtin b=>cases b<;>simp[hc] at hk
  | value f=>simp[hc] at hk
  | invoke r m=>simp[hc] at hk
end
end Go.Am
/-
 The abstract machine,part 14: a region that draws its order: one walk in the order of the text,checked so that it serves every order. The walk,and what it leaves behind.
-/
namespace Go.Am
variable [GT]
def i5 (acc:List Nat):List Edge->Nat
 | []=>0
 | e::es=>if Region.binds .any e then(2 ^ e.on ||| acc.getD e.on 0) ||| i5 acc es else i5 acc es
def eE:List Oper->List Nat->List Nat
 | [],acc=>acc
 | o::os,acc=>eE os (acc++[i5 acc o.after.toList])
def anc (M:List Nat) (j i:Nat):Bool:=(M.getD j 0).testBit i
/-! ### What counts as a write
Where one allocation names another and no write lies between the two,all that allocates or writes has to be in one order;then allocations count as writes. -/
def isAl (o:Oper):Bool:=match kind o with|.alloc=>true|_=>false
def isEf (o:Oper):Bool:=match kind o with|.alloc=>true|.write=>true|_=>false
def opB (ops:Array Oper) (f:Oper->Bool) (j:Nat):Bool:=match ops[j]? with|some o=>f o|none=>false
def Ei (ops:Array Oper):Bool:=
 ((List.range ops.size).any λj=>opB ops isAl j&&(List.range ops.size).any λi=>opB ops isAl i&&anc (eE ops.toList []) j i&&!((List.range ops.size).any λp=>opB ops isEf p&&!opB ops isAl p&&anc (eE ops.toList []) p i&&anc (eE ops.toList []) j p)) &&
 (List.range ops.size).all λj=>!opB ops isEf j || (List.range ops.size).all λi=>!opB ops isEf i || Nat.ble j i || anc (eE ops.toList []) j i
def bL (ops:Array Oper) (o:Oper):Kd:=match kind o with|.alloc=>(match Ei ops with|true=>.write|false=>.alloc)|.pure=>.pure|.read=>.read|.write=>.write
theorem ke (ops:Array Oper) (o:Oper):bL ops o=kind o∨(bL ops o=.write∧kind o=.alloc):=by
 unfold bL;cases kind o
 ·exact .inl rfl
 ·exact .inl rfl
 ·cases Ei ops
  ·exact .inl rfl
  ·exact .inr ⟨rfl,rfl⟩
 ·exact .inl rfl
theorem rA {ops:Array Oper}{o:Oper}(h:bL ops o=.pure):kind o=.pure:=by
 rcases ke ops o with e|⟨e,_⟩
 ·rw[<-e];exact h
 ·rw[e] at h;cases h
theorem jQ {ops:Array Oper}{o:Oper}(h:bL ops o=.read):kind o=.read:=by
 rcases ke ops o with e|⟨e,_⟩
 ·rw[<-e];exact h
 ·rw[e] at h;cases h
theorem kg {ops:Array Oper}{o:Oper}(h:bL ops o=.alloc):kind o=.alloc:=by
 rcases ke ops o with e|⟨e,_⟩
 ·rw[<-e];exact h
 ·rw[e] at h;cases h
theorem F5 {ops:Array Oper}{o:Oper}(h:kind o=.pure):bL ops o=.pure:=by
 unfold bL;rw[h]
theorem F4 {ops:Array Oper}{o:Oper}(h:kind o=.read):bL ops o=.read:=by
 unfold bL;rw[h]
theorem wl {ops:Array Oper}{o:Oper}(h:kind o=.write):bL ops o=.write:=by
 unfold bL;rw[h]
def looks (ops:Array Oper) (o:Oper):List Nat:=
 (o.op.operands.toList.filterMap fun|.tmp t=>some t|_=>none)++(match o.guard with|some (g,_)=>((ops[g]?).bind (·.dst)).toList|none=>[])
def b6 (ops:Array Oper):Bool:=
 (List.range ops.size).all λj=>
  match ops[j]? with
  | none=>true
  | some oj=>
   oj.after.toList.all (λe=>!Region.binds .any e || decide (e.on<j)) &&
   (List.range ops.size).all λi=>i == j ||
    match ops[i]? with
    | none=>true
    | some oi=>
     match oi.dst with
     | none=>true
     | some t=>(!(looks ops oj).contains t || anc (eE ops.toList []) j i || anc (eE ops.toList []) i j)&&oj.dst != some t
structure DS where
 tm:List D
 hist:List (Nat×aB)
 pend:List (Nat×Box)
 al:List Nat
 rd:List (Nat×Oper×List D×D)
section
variable (P:Program) (ti:TI) (cl:Cl) (eq:D->D->Bool)
def cL (tm:List D) (o:Oper) (d:D) (g:aB):Bool:=
 match aop P ti tm g 0 o with
 | some (d',_)=>eq d' d
 | none=>false
def bv (m:Nat) (tm:List D) (o:Oper) (d:D):List (Nat×aB)->Bool
 | []=>true
 | (t,g)::r=>cL P ti eq tm o d g&&(t == 0 || m.testBit (t-1) || bv m tm o d r)
def gT (h:aB) (m:Nat):List (Nat×Oper×List D×D)->Bool
 | []=>true
 | (r,o,tm,d)::l=>(m.testBit r || cL P ti eq tm o d h)&&gT h m l
def dL (base:Nat) (l:List (Nat×Box)) (g:aB):aB:=⟨g.next,l.map (λp=>(base+p.1,p.2))++g.bs⟩
def u3 (M:List Nat) (m:Nat) (hist:List (Nat×aB)) (al:List Nat):Bool:=
 al.all λx=>!m.testBit x || hist.any λp=>p.1 != 0&&(M.getD (p.1-1) 0).testBit x&&m.testBit (p.1-1)
def cO (ops:Array Oper) (base:Nat) (M:List Nat) (j:Nat) (o:Oper) (s:DS):Option DS:=
 match af ops s.tm o with
 | some true=>
  match bL ops o with
  | .pure=>match aop P ti s.tm ⟨0,[]⟩ 0 o with|some (d,_)=>some { s with tm:=dp s.tm o.dst d }|none=>none
  | .read=>
   match s.hist with
   | (_,g)::_=>
    match aop P ti s.tm g 0 o with
    | some (d,_)=>if bv P ti eq (M.getD j 0) s.tm o d s.hist then some { s with tm:=dp s.tm o.dst d,rd:=(j,o,s.tm,d)::s.rd } else none
    | none=>none
   | []=>none
  | .alloc=>
   match aop P ti s.tm ⟨0,[]⟩ (base+j) o with
   | some (d,h')=>
    match h'.get (base+j) with
    | some box=>if u3 M (M.getD j 0) s.hist s.al then some { s with tm:=dp s.tm o.dst d,pend:=(j,box)::s.pend,al:=j::s.al } else none
    | none=>none
   | none=>none
  | .write=>
   match s.hist with
   | (t,g)::_=>
    if t == 0 || (M.getD j 0).testBit (t-1) then
     match bU P ti cl s.tm (dL base (s.pend.filter λp=>(M.getD j 0).testBit p.1) g) (base+j) o with
     | some (d,h')=>if gT P ti eq h' (M.getD j 0) s.rd then some { s with tm:=dp s.tm o.dst d,hist:=(j+1,h')::s.hist,pend:=s.pend.filter λp=>!(M.getD j 0).testBit p.1 } else none
     | none=>none
    else none
   | []=>none
 | some false=>some { s with tm:=dp s.tm o.dst aM }
 | none=>none
def dA (ops:Array Oper) (base:Nat) (M:List Nat):List Oper->Nat->DS->Option DS
 | [],_,s=>some s
 | o::l,j,s=>match cO P ti cl eq ops base M j o s with|some s'=>dA ops base M l (j+1) s'|none=>none
def bp (ops:Array Oper) (s:St):Option St:=
 match dA P ti cl eq ops s.h.next (eE ops.toList []) ops.toList 0 ⟨s.tmps,[(0,bump s.h ops.size)],[],[],[]⟩ with
 | some ds=>match ds.hist with|(_,g)::_=>some ⟨ds.tm,dL s.h.next ds.pend g⟩|[]=>none
 | none=>none
inductive rj (ops:Array Oper) (base:Nat) (M:List Nat) (j:Nat) (o:Oper) (s s':DS) (d:D) (box:Box):Prop
 | skip (hw:af ops s.tm o=some false) (hd:d=aM) (h1:s'.tm=dp s.tm o.dst d) (h2:s'.hist=s.hist) (h3:s'.pend=s.pend) (h4:s'.al=s.al) (h5:s'.rd=s.rd)
 | pure (hw:af ops s.tm o=some true) (hk:bL ops o=.pure) (ha:∀ h id,aop P ti s.tm h id o=some (d,h)) (h1:s'.tm=dp s.tm o.dst d) (h2:s'.hist=s.hist) (h3:s'.pend=s.pend) (h4:s'.al=s.al) (h5:s'.rd=s.rd)
 | read (hw:af ops s.tm o=some true) (hk:bL ops o=.read) (ha:bv P ti eq (M.getD j 0) s.tm o d s.hist=true) (h1:s'.tm=dp s.tm o.dst d) (h2:s'.hist=s.hist) (h3:s'.pend=s.pend) (h4:s'.al=s.al) (h5:s'.rd=(j,o,s.tm,d)::s.rd)
 | alloc (hw:af ops s.tm o=some true) (hk:bL ops o=.alloc) (ha:∀ h,aop P ti s.tm h (base+j) o=some (d,h.put (base+j) box)) (hal:u3 M (M.getD j 0) s.hist s.al=true) (h1:s'.tm=dp s.tm o.dst d) (h2:s'.hist=s.hist) (h3:s'.pend=(j,box)::s.pend) (h4:s'.al=j::s.al) (h5:s'.rd=s.rd)
 | write (hw:af ops s.tm o=some true) (hk:bL ops o=.write) (t:Nat) (g h':aB) (r:List (Nat×aB)) (hh:s.hist=(t,g)::r) (ht:t=0∨(M.getD j 0).testBit (t-1)=true)
   (ha:bU P ti cl s.tm (dL base (s.pend.filter λp=>(M.getD j 0).testBit p.1) g) (base+j) o=some (d,h')) (hp:gT P ti eq h' (M.getD j 0) s.rd=true)
   (h1:s'.tm=dp s.tm o.dst d) (h2:s'.hist=(j+1,h')::s.hist) (h3:s'.pend=s.pend.filter λp=>!(M.getD j 0).testBit p.1) (h4:s'.al=s.al) (h5:s'.rd=s.rd)
end
section
variable {P:Program}{ti:TI}{cl:Cl}{eq:D->D->Bool}
theorem CD {ops:Array Oper}{base:Nat}{M:List Nat}{j:Nat}{o:Oper}{s s':DS}(h:cO P ti cl eq ops base M j o s=some s'):∃ d box,rj P ti cl eq ops base M j o s s' d box:=by
 unfold cO at h;split at h
 ·rename_i hw;split at h
  ·rename_i hk;split at h
   ·rename_i d h0 ha;simp only[kA] at h;subst h;exact⟨d,default,.pure hw hk (rY (rA hk) ha) rfl rfl rfl rfl rfl⟩
   ·simp at h
  ·rename_i hk;split at h
   ·split at h
    ·rename_i d h0 ha;split at h
     ·rename_i hr;simp only[kA] at h;subst h;exact⟨d,default,.read hw hk hr rfl rfl rfl rfl rfl⟩
     ·simp at h
    ·simp at h
   ·simp at h
  ·rename_i hk;split at h
   ·rename_i d h0 ha;obtain⟨box,hb⟩:=lV (kg hk) ha;split at h
    ·rename_i bx hbx;split at h
     ·rename_i hal;simp only[kA] at h;subst h
      have e:h0=aB.put ⟨0,[]⟩ (base+j) box:=by
       have:=hb ⟨0,[]⟩
       rw[ha] at this;simp only[kA,kB] at this;exact this.2
      rw[e,aB.get_put,if_pos rfl,kA] at hbx;subst hbx;exact⟨d,box,.alloc hw hk hb hal rfl rfl rfl rfl rfl⟩
     ·simp at h
    ·simp at h
   ·simp at h
  ·rename_i hk;split at h
   ·rename_i t g r hh;split at h
    ·rename_i ht;split at h
     ·rename_i d h' ha;split at h
      ·rename_i hp;simp only[kA] at h;subst h;exact⟨d,default,.write hw hk t g h' r hh (by simpa using ht) ha hp rfl rfl rfl rfl rfl⟩
      ·simp at h
     ·simp at h
    ·simp at h
   ·simp at h
 ·rename_i hw;simp only[kA] at h;subst h;exact⟨aM,default,.skip hw rfl rfl rfl rfl rfl rfl⟩
 ·simp at h
theorem mK {ops:Array Oper}{base:Nat}{M:List Nat}:∀ (l:List Oper) (j:Nat) (s s':DS),dA P ti cl eq ops base M l j s=some s' ->
  ∃ (tr:Nat->DS) (val:Nat->D) (box:Nat->Box),tr j=s∧tr (j+l.length)=s'∧∀ i o,l[i]?=some o->rj P ti cl eq ops base M (j+i) o (tr (j+i)) (tr (j+i+1)) (val (j+i)) (box (j+i))
 | [],j,s,s',h=>by
  simp only[dA,kA] at h;subst h;exact⟨λ_=>s,λ_=>default,λ_=>default,rfl,rfl,λi o hi=>by simp at hi⟩
 | o::l,j,s,s',h=>by
  simp only[dA] at h;split at h
  ·rename_i s1 h1;obtain⟨d,bx,hs⟩:=CD h1;obtain⟨tr,val,box,e1,e2,e3⟩:=mK l (j+1) s1 s' h;refine⟨λk=>if k=j then s else tr k,λk=>if k=j then d else val k,λk=>if k=j then bx else box k,by simp,?_,λi o' hi=>?_⟩
   ·have:¬(j+(o::l).length=j):=by simp
    simp only[if_neg this];rw[<-e2];congr 1;simp;omega
   ·cases i with
    | zero=>
     simp at hi;subst hi;have h1:¬(j+1=j):=by omega
     simpa [h1,e1] using hs
    | succ i=>
     simp at hi;have:=e3 i o' hi
     have h1:¬(j+(i+1)=j):=by omega
     have h2:¬(j+(i+1)+1=j):=by omega
     have h3:j+1+i=j+(i+1):=by omega
     rw[h3] at this;simpa only[if_neg h1,if_neg h2] using this
  ·simp at h
theorem oT {acc:List Nat}{i:Nat}:∀ {es:List Edge},(i5 acc es).testBit i=true->∃ e∈es,Region.binds .any e=true∧(i=e.on∨(acc.getD e.on 0).testBit i=true)
 | [],h=>by simp[i5] at h
 | e::es,h=>by
  simp only[i5] at h;split at h
  ·rename_i hb;simp only[Nat.testBit_or,kN] at h;rcases h with(h|h)|h
   ·rw[Nat.testBit_two_pow] at h;exact⟨e,by simp,hb,.inl (by simpa using (of_decide_eq_true h).symm)⟩
   ·exact⟨e,by simp,hb,.inr h⟩
   ·obtain⟨e',h1,h2⟩:=oT h;exact⟨e',by simp[h1],h2⟩
  ·obtain⟨e',h1,h2⟩:=oT h;exact⟨e',by simp[h1],h2⟩
theorem oS {acc:List Nat}{i:Nat}:∀ {es:List Edge}{e:Edge},e∈es->Region.binds .any e=true->(i=e.on∨(acc.getD e.on 0).testBit i=true)->(i5 acc es).testBit i=true
 | e0::es,e,hm,hb,hi=>by
  simp only[i5];rcases List.mem_cons.1 hm with rfl|hm
  ·rw[if_pos hb];simp only[Nat.testBit_or,kN];rcases hi with rfl|hi
   ·left;left;simp
   ·left;right;exact hi
  ·split
   ·simp only[Nat.testBit_or,kN];right;exact oS hm hb hi
   ·exact oS hm hb hi
theorem rZ:∀ (os:List Oper) (acc:List Nat),(eE os acc).length=acc.length+os.length∧(∀ k,k<acc.length->(eE os acc).getD k 0=acc.getD k 0) ∧
  ∀ k o,os[k]?=some o->(eE os acc).getD (acc.length+k) 0=i5 ((eE os acc).take (acc.length+k)) o.after.toList
 | [],acc=>⟨by simp[eE],λ_ _=>rfl,λk o h=>by simp at h⟩
 | o::os,acc=>by
  obtain⟨h1,h2,h3⟩:=rZ os (acc++[i5 acc o.after.toList]);simp only[eE];refine⟨by rw[h1];simp;omega,λk hk=>?_,λk o' hk=>?_⟩
  ·rw[h2 k (by simp;omega)];simp[List.getD,List.getElem?_append_left hk]
  ·cases k with
   | zero=>
    simp at hk;subst hk
    have e:((eE os (acc++[i5 acc o.after.toList])).take acc.length)=acc:=by
     apply List.ext_getElem?;intro q;rw[List.getElem?_take];split
     ·rename_i hq;have hq2:=h2 q (by simp;omega);have hl:q<(eE os (acc++[i5 acc o.after.toList])).length:=by rw[h1];simp;omega
      simp only[List.getD,List.getElem?_eq_getElem hl,Option.getD_some] at hq2;rw[List.getElem?_eq_getElem hl,hq2,List.getElem?_append_left hq,List.getElem?_eq_getElem hq];simp
     ·rename_i hq;rw[List.getElem?_eq_none_iff.2 om]
    rw[Nat.add_zero,e,h2 acc.length si];simp[List.getD]
   | succ k=>
    simp at hk;have:=h3 k o' hk
    simp only[kG,kO,List.length_nil] at this;rw[show acc.length+(k+1)=acc.length+(0+1)+k from by omega];exact this
end
end Go.Am
/-
 The abstract machine,part 15: what the walk over a region that draws its order knows at each aw.
-/
namespace Go.Am
variable [GT]
section
variable {P:Program}{ti:TI}{cl:Cl}{eq:D->D->Bool}{ops:Array Oper}{base:Nat}{s0:St}{tr:Nat->DS}{val:Nat->D}{box:Nat->Box}
abbrev MM (ops:Array Oper):List Nat:=eE ops.toList []
structure fF (P:Program) (ti:TI) (cl:Cl) (eq:D->D->Bool) (ops:Array Oper) (base:Nat) (s0:St) (tr:Nat->DS) (val:Nat->D) (box:Nat->Box):Prop where
 ok:b6 ops=true
 init:tr 0=⟨s0.tmps,[(0,bump s0.h ops.size)],[],[],[]⟩
 step:∀ j o,ops[j]?=some o->rj P ti cl eq ops base (MM ops) j o (tr j) (tr (j+1)) (val j) (box j)
theorem m6 (hok:b6 ops=true){j:Nat}{o:Oper}(hj:ops[j]?=some o){e:Edge}(he:e∈o.after) (hb:Region.binds .any e=true):e.on<j:=by
 unfold b6 at hok;rw[kL] at hok;have hlt:=(Array.getElem?_eq_some_iff.1 hj).1;have:=hok j (by simpa using hlt)
 simp only[hj,kC,kL] at this;have:=this.1 e (by simpa using he)
 simpa [hb] using this
theorem yi (hok:b6 ops=true){i j:Nat}{oi oj:Oper}(hi:ops[i]?=some oi) (hj:ops[j]?=some oj) (hne:i≠j){t:Nat}(ht:oi.dst=some t) :
  (t∈looks ops oj->anc (MM ops) j i=true∨anc (MM ops) i j=true)∧oj.dst≠some t:=by
 unfold b6 at hok;rw[kL] at hok;have hlt:=(Array.getElem?_eq_some_iff.1 hj).1;have hli:=(Array.getElem?_eq_some_iff.1 hi).1;have:=hok j (by simpa using hlt)
 simp only[hj,kC,kL] at this;have:=this.2 i (by simpa using hli)
 have hne':(i == j)=false:=by simpa using hne
 simp only[hne',Bool.false_or,hi,ht,kC,kN,Bool.not_eq_true',bne_iff_ne] at this;refine⟨λhm=>?_,this.2⟩;rcases this.1 with(h|h)|h
 ·have:(looks ops oj).contains t=true:=by simpa using hm
  rw[this] at h;cases h
 ·exact .inl h
 ·exact .inr h
theorem E8 {j:Nat}{o:Oper}(hj:ops[j]?=some o):(MM ops).getD j 0=i5 ((MM ops).take j) o.after.toList:=by
 have:=(rZ ops.toList []).2.2 j o (by rw[Array.getElem?_toList];exact hj)
 simpa using this
theorem sK {l:List Nat}{j k:Nat}(h:k<j):(l.take j).getD k 0=l.getD k 0:=by
 simp only[List.getD];rw[List.getElem?_take,if_pos h]
theorem u0 (hok:b6 ops=true){j i:Nat}{o:Oper}(hj:ops[j]?=some o) (ha:anc (MM ops) j i=true):∃ e∈o.after,Region.binds .any e=true∧e.on<j∧(i=e.on∨anc (MM ops) e.on i=true):=by
 unfold anc at ha;rw[E8 hj] at ha;obtain⟨e,h1,h2,h3⟩:=oT ha;have h1':e∈o.after:=by simpa using h1
 have hlt:=m6 hok hj h1' h2;refine⟨e,h1',h2,hlt,h3.imp id λh=>?_⟩
 rwa [sK hlt] at h
theorem xj (hok:b6 ops=true){j i:Nat}{o:Oper}(hj:ops[j]?=some o){e:Edge}(he:e∈o.after) (hb:Region.binds .any e=true) (h:i=e.on∨anc (MM ops) e.on i=true):anc (MM ops) j i=true:=by
 unfold anc;rw[E8 hj];refine oS (by simpa using he) hb (h.imp id λh=>?_);rw[sK (m6 hok hj he hb)];exact h
theorem ra {j i:Nat}(hj:ops[j]?=none):anc (MM ops) j i=false:=by
 unfold anc;have hl:=(rZ ops.toList []).1
 have:(MM ops)[j]?=none:=by
  rw[List.getElem?_eq_none_iff];rw[Array.getElem?_eq_none_iff] at hj;show(eE ops.toList []).length<=j;rw[hl];simpa using hj
 simp[List.getD,this]
theorem oR (hok:b6 ops=true):∀ (j i:Nat),anc (MM ops) j i=true->i<j:=by
 intro j
 induction j using Nat.strongRecOn with
 | _ j ih=>
  intro i ha;cases hj:ops[j]? with
  | none=>rw[ra hj] at ha;cases ha
  | some o=>
   obtain⟨e,_,_,h3,h4⟩:=u0 hok hj ha;rcases h4 with rfl|h4
   ·exact h3
   ·have:=ih e.on h3 i h4;omega
theorem CR (hok:b6 ops=true):∀ (j i k:Nat),anc (MM ops) j i=true->anc (MM ops) i k=true->anc (MM ops) j k=true:=by
 intro j
 induction j using Nat.strongRecOn with
 | _ j ih=>
  intro i k h1 h2;cases hj:ops[j]? with
  | none=>rw[ra hj] at h1;cases h1
  | some o=>
   obtain⟨e,e1,e2,e3,e4⟩:=u0 hok hj h1;rcases e4 with rfl|e4
   ·exact xj hok hj e1 e2 (.inr h2)
   ·exact xj hok hj e1 e2 (.inr (ih e.on e3 i k e4 h2))
def oY (ops:Array Oper) (T:Nat->Prop):Prop:=∀ j o e,T j->ops[j]?=some o->e∈o.after->Region.binds .any e=true->T e.on
theorem cw (hok:b6 ops=true){T:Nat->Prop}(hc:oY ops T):∀ (j i:Nat),(∀ o e,ops[j]?=some o->e∈o.after->Region.binds .any e=true->T e.on)->anc (MM ops) j i=true->T i:=by
 intro j
 induction j using Nat.strongRecOn with
 | _ j ih=>
  intro i hr ha;cases hj:ops[j]? with
  | none=>rw[ra hj] at ha;cases ha
  | some o=>
   obtain⟨e,e1,e2,e3,e4⟩:=u0 hok hj ha;have hT:=hr o e hj e1 e2;rcases e4 with rfl|e4
   ·exact hT
   ·exact ih e.on e3 i (λo' e' ho' he' hb'=>hc e.on o' e' hT ho' he' hb') e4
def IsW (ops:Array Oper) (tr:Nat->DS) (j:Nat):Prop:=∃ o,ops[j]?=some o∧af ops (tr j).tm o=some true∧bL ops o=.write
def IsA (ops:Array Oper) (tr:Nat->DS) (j:Nat):Prop:=∃ o,ops[j]?=some o∧af ops (tr j).tm o=some true∧bL ops o=.alloc
def HP (tr:Nat->DS) (t:Nat):aB:=((tr t).hist.headD (0,default)).2
theorem rj.tm {M:List Nat}{j:Nat}{o:Oper}{s s':DS}{d:D}{b:Box}(h:rj P ti cl eq ops base M j o s s' d b):s'.tm=dp s.tm o.dst d:=by cases h<;>assumption
theorem rj.hist {M:List Nat}{j:Nat}{o:Oper}{s s':DS}{d:D}{b:Box}(h:rj P ti cl eq ops base M j o s s' d b) :
  (s'.hist=s.hist∧¬(af ops s.tm o=some true∧bL ops o=.write))∨((af ops s.tm o=some true∧bL ops o=.write)∧∃ h',s'.hist=(j+1,h')::s.hist):=by
 cases h with
 | skip hw _ _ h2=>exact .inl ⟨h2,λh=>by rw[hw] at h;simp at h⟩
 | pure hw hk _ _ h2=>exact .inl ⟨h2,λh=>by rw[hk] at h;simp at h⟩
 | read hw hk _ _ h2=>exact .inl ⟨h2,λh=>by rw[hk] at h;simp at h⟩
 | alloc hw hk _ _ _ h2=>exact .inl ⟨h2,λh=>by rw[hk] at h;simp at h⟩
 | write hw hk t g h' r _ _ _ _ _ h2=>exact .inr ⟨⟨hw,hk⟩,h',h2⟩
theorem tc (Z:fF P ti cl eq ops base s0 tr val box):∀ j,j<=ops.size->(tr j).tm.length=s0.tmps.length
 | 0,_=>by rw[Z.init]
 | j+1,hj=>by
  have hlt:j<ops.size:=by omega
  have hs:=Z.step j ops[j] (by simp[hlt]);rw[hs.tm];have:=tc Z j om
  cases ops[j].dst<;>simp[dp,this]
theorem yF (Z:fF P ti cl eq ops base s0 tr val box):∀ j,j<=ops.size->∀ t,t<s0.tmps.length ->
  (∀ i oi,i<j->ops[i]?=some oi->oi.dst=some t->(tr j).tm[t]?=some (val i))∧((∀ i oi,i<j->ops[i]?=some oi->oi.dst≠some t)->(tr j).tm[t]?=s0.tmps[t]?)
 | 0,_,t,ht=>⟨λi oi hi=>by omega,λ_=>by rw[Z.init]⟩
 | j+1,hj,t,ht=>by
  have hlt:j<ops.size:=by omega
  have hoj:ops[j]?=some ops[j]:=by simp[hlt]
  have hs:=Z.step j ops[j] hoj;obtain⟨ih1,ih2⟩:=yF Z j om t ht;have hl:=tc Z j om;rw[hs.tm];cases hd:ops[j].dst with
  | none=>
   simp only[dp];refine⟨λi oi hi hoi hdi=>?_,λhno=>ih2 λi oi hi hoi=>hno i oi om hoi⟩;by_cases hij:i=j
   ·subst hij;rw[hoj] at hoi;injection hoi with hoi;subst hoi;rw[hd] at hdi;cases hdi
   ·exact ih1 i oi om hoi hdi
  | some t'=>
   simp only[dp];refine⟨λi oi hi hoi hdi=>?_,λhno=>?_⟩
   ·by_cases hij:i=j
    ·subst hij;rw[hoj] at hoi;injection hoi with hoi;subst hoi;rw[hd] at hdi;injection hdi with hdi;subst hdi
     simp[hl,ht]
    ·have hne:=(yi Z.ok hoi hoj hij hdi).2;rw[hd] at hne;rw[List.getElem?_set_ne (λe=>hne (by rw[e]))];exact ih1 i oi om hoi hdi
   ·have hne:=hno j ops[j] om hoj;rw[hd] at hne;rw[List.getElem?_set_ne (λe=>hne (by rw[e]))];exact ih2 λi oi hi hoi=>hno i oi om hoi
structure HistOk (ops:Array Oper) (tr:Nat->DS) (j:Nat):Prop where
 ne:(tr j).hist≠[]
 val:∀ t g,(t,g)∈(tr j).hist->g=HP tr t∧(t=0∨(IsW ops tr (t-1)∧t<=j))
 zero:(0,HP tr 0)∈(tr j).hist
 all:∀ w,w<j->IsW ops tr w->(w+1,HP tr (w+1))∈(tr j).hist
 sorted:(tr j).hist.Pairwise λa b=>b.1<a.1
theorem lO (Z:fF P ti cl eq ops base s0 tr val box):∀ j,j<=ops.size->HistOk ops tr j
 | 0,_=>by
  have h0:(tr 0).hist=[(0,HP tr 0)]:=by simp[HP,Z.init]
  refine⟨by rw[h0];simp,λt g hm=>?_,by rw[h0];simp,λw hw=>by omega,by rw[h0];simp⟩;rw[h0] at hm;simp at hm;obtain⟨rfl,rfl⟩:=hm;exact⟨rfl,.inl rfl⟩
 | j+1,hj=>by
  have hlt:j<ops.size:=by omega
  have hoj:ops[j]?=some ops[j]:=by simp[hlt]
  have hs:=Z.step j ops[j] hoj;have ih:=lO Z j om;rcases hs.hist with⟨h1,h2⟩|⟨h1,h',h2⟩
  ·refine⟨by rw[h1];exact ih.ne,λt g hm=>?_,by rw[h1];exact ih.zero,λw hw hW=>?_,by rw[h1];exact ih.sorted⟩
   ·rw[h1] at hm;obtain⟨a,b⟩:=ih.val t g hm;exact⟨a,b.imp id λ⟨x,y⟩=>⟨x,by omega⟩⟩
   ·rw[h1];by_cases hwj:w=j
    ·subst hwj;obtain⟨o,ho,hw1,hw2⟩:=hW;rw[hoj] at ho;injection ho with ho;subst ho
     exact absurd ⟨hw1,hw2⟩ h2
    ·exact ih.all w om hW
  ·have hHP:HP tr (j+1)=h':=by simp[HP,h2]
   have hW:IsW ops tr j:=⟨ops[j],hoj,h1.1,h1.2⟩;refine⟨by rw[h2];simp,λt g hm=>?_,by rw[h2];exact List.mem_cons_of_mem _ ih.zero,λw hw hWw=>?_,?_⟩
   ·rw[h2] at hm;rcases List.mem_cons.1 hm with hm|hm
    ·simp only[kB] at hm;obtain⟨rfl,rfl⟩:=hm;exact⟨hHP.symm,.inr ⟨by simpa using hW,by omega⟩⟩
    ·obtain⟨a,b⟩:=ih.val t g hm;exact⟨a,b.imp id λ⟨x,y⟩=>⟨x,by omega⟩⟩
   ·rw[h2];by_cases hwj:w=j
    ·subst hwj;rw[hHP];simp
    ·exact List.mem_cons_of_mem _ (ih.all w om hWw)
   ·rw[h2,List.pairwise_cons];refine⟨λp hp=>?_,ih.sorted⟩;obtain⟨t,g⟩:=p;rcases(ih.val t g hp).2 with h0|⟨_,h0⟩
    ·simp only;omega
    ·simp only;omega
theorem HH (Z:fF P ti cl eq ops base s0 tr val box):∀ j,j<=ops.size->∀ r o,r<j->ops[r]?=some o->af ops (tr r).tm o=some true->bL ops o=.read->(r,o,(tr r).tm,val r)∈(tr j).rd
 | 0,_,r,o,hr,_,_,_=>by omega
 | j+1,hj,r,o,hr,ho,hw,hk=>by
  have hlt:j<ops.size:=by omega
  have hoj:ops[j]?=some ops[j]:=by simp[hlt]
  have hs:=Z.step j ops[j] hoj;by_cases hrj:r=j
  ·subst hrj;rw[hoj] at ho;injection ho with ho;subst ho
   cases hs with
   | skip hw'=>rw[hw] at hw';simp at hw'
   | pure hw' hk'=>rw[hk] at hk';simp at hk'
   | read hw' hk' _ _ _ _ _ h5=>rw[h5];simp
   | alloc hw' hk'=>rw[hk] at hk';simp at hk'
   | write hw' hk'=>rw[hk] at hk';simp at hk'
  ·have ih:=HH Z j om r o om ho hw hk;cases hs with
   | skip _ _ _ _ _ _ h5=>rw[h5];exact ih
   | pure _ _ _ _ _ _ _ h5=>rw[h5];exact ih
   | read _ _ _ _ _ _ _ h5=>rw[h5];exact List.mem_cons_of_mem _ ih
   | alloc _ _ _ _ _ _ _ _ h5=>rw[h5];exact ih
   | write _ _ _ _ _ _ _ _ _ _ _ _ _ _ h5=>rw[h5];exact ih
theorem Hd (Z:fF P ti cl eq ops base s0 tr val box):∀ j,j<=ops.size->∀ i,i<j->IsA ops tr i->i∈(tr j).al
 | 0,_,i,hi,_=>by omega
 | j+1,hj,i,hi,hA=>by
  have hlt:j<ops.size:=by omega
  have hoj:ops[j]?=some ops[j]:=by simp[hlt]
  have hs:=Z.step j ops[j] hoj;by_cases hij:i=j
  ·subst hij;obtain⟨o,ho,hw,hk⟩:=hA;rw[hoj] at ho;injection ho with ho;subst ho
   cases hs with
   | skip hw'=>rw[hw] at hw';simp at hw'
   | pure hw' hk'=>rw[hk] at hk';simp at hk'
   | read hw' hk'=>rw[hk] at hk';simp at hk'
   | alloc _ _ _ _ _ _ _ h4=>rw[h4];simp
   | write hw' hk'=>rw[hk] at hk';simp at hk'
  ·have ih:=Hd Z j om i om hA;cases hs with
   | skip _ _ _ _ _ h4=>rw[h4];exact ih
   | pure _ _ _ _ _ _ h4=>rw[h4];exact ih
   | read _ _ _ _ _ _ h4=>rw[h4];exact ih
   | alloc _ _ _ _ _ _ _ h4=>rw[h4];exact List.mem_cons_of_mem _ ih
   | write _ _ _ _ _ _ _ _ _ _ _ _ _ h4=>rw[h4];exact ih
theorem mv (Z:fF P ti cl eq ops base s0 tr val box):∀ j,j<=ops.size->∀ i b,(i,b)∈(tr j).pend↔(IsA ops tr i∧i<j∧b=box i∧∀ w,w<j->IsW ops tr w->anc (MM ops) w i=false)
 | 0,_,i,b=>by
  rw[Z.init];simp
 | j+1,hj,i,b=>by
  have hlt:j<ops.size:=by omega
  have hoj:ops[j]?=some ops[j]:=by simp[hlt]
  have hs:=Z.step j ops[j] hoj;have ih:=mv Z j om i b
  have plain:¬IsW ops tr j->¬IsA ops tr j->(tr (j+1)).pend=(tr j).pend->((i,b)∈(tr (j+1)).pend↔(IsA ops tr i∧i<j+1∧b=box i∧∀ w,w<j+1->IsW ops tr w->anc (MM ops) w i=false)):=λn1 n2 hp=>by
   rw[hp,ih];constructor
   ·rintro⟨a1,a2,a3,a4⟩;exact⟨a1,by omega,a3,λw hw hW=>a4 w (Nat.lt_of_le_of_ne om λe=>n1 (e▸hW)) hW⟩
   ·rintro⟨a1,a2,a3,a4⟩;exact⟨a1,Nat.lt_of_le_of_ne om λe=>n2 (e▸a1),a3,λw hw hW=>a4 w om hW⟩
  have hdet:∀ {K:Kd},(∃ o,ops[j]?=some o∧af ops (tr j).tm o=some true∧bL ops o=K)->af ops (tr j).tm ops[j]=some true∧bL ops ops[j]=K:=λ{K} ⟨o,ho,h1,h2⟩=>by
   rw[hoj] at ho;injection ho with ho;subst ho;exact⟨h1,h2⟩
  cases hs with
  | skip hw _ _ _ h3=>exact plain (λh=>by have:=(hdet h).1;rw[hw] at this;simp at this) (λh=>by have:=(hdet h).1;rw[hw] at this;simp at this) h3
  | pure hw hk _ _ _ h3=>exact plain (λh=>by have:=(hdet h).2;rw[hk] at this;simp at this) (λh=>by have:=(hdet h).2;rw[hk] at this;simp at this) h3
  | read hw hk _ _ _ h3=>exact plain (λh=>by have:=(hdet h).2;rw[hk] at this;simp at this) (λh=>by have:=(hdet h).2;rw[hk] at this;simp at this) h3
  | alloc hw hk _ _ _ _ h3=>
   have hA:IsA ops tr j:=⟨ops[j],hoj,hw,hk⟩;have n1:¬IsW ops tr j:=λh=>by have:=(hdet h).2;rw[hk] at this;simp at this
   rw[h3];constructor
   ·intro hm;rcases List.mem_cons.1 hm with hm|hm
    ·simp only[kB] at hm;obtain⟨rfl,rfl⟩:=hm;refine⟨hA,by omega,rfl,λw hw hW=>?_⟩;cases hx:anc (MM ops) w i with
     | false=>rfl
     | true=>have:=oR Z.ok w i hx;omega
    ·obtain⟨a1,a2,a3,a4⟩:=ih.1 hm;exact⟨a1,by omega,a3,λw hw hW=>a4 w (Nat.lt_of_le_of_ne om λe=>n1 (e▸hW)) hW⟩
   ·rintro⟨a1,a2,a3,a4⟩;by_cases hij:i=j
    ·subst hij;rw[a3];simp
    ·exact List.mem_cons_of_mem _ (ih.2 ⟨a1,by omega,a3,λw hw hW=>a4 w om hW⟩)
  | write hw hk t g h' r _ _ _ _ _ _ h3=>
   have hW:IsW ops tr j:=⟨ops[j],hoj,hw,hk⟩;have n2:¬IsA ops tr j:=λh=>by have:=(hdet h).2;rw[hk] at this;simp at this
   rw[h3,List.mem_filter,ih];constructor
   ·rintro⟨⟨a1,a2,a3,a4⟩,a5⟩;refine⟨a1,by omega,a3,λw hw hWw=>?_⟩;by_cases hwj:w=j
    ·subst hwj;simpa [anc] using a5
    ·exact a4 w om hWw
   ·rintro⟨a1,a2,a3,a4⟩;refine⟨⟨a1,Nat.lt_of_le_of_ne om λe=>n2 (e▸a1),a3,λw hw hWw=>a4 w om hWw⟩,?_⟩;have:=a4 j om hW
    simpa [anc] using this
theorem od {m:Nat}{tm:List D}{o:Oper}{d:D}:∀ {l:List (Nat×aB)},bv P ti eq m tm o d l=true->l.Pairwise (λa b=>b.1<a.1)->∀ t g,(t,g)∈l->(∀ t' g',(t',g')∈l->t<t'->m.testBit (t' - 1)=false)->cL P ti eq tm o d g=true
 | [],_,_,t,g,hm,_=>by simp at hm
 | (t0,g0)::l,h,hp,t,g,hm,hno=>by
  simp only[bv,kC,kN] at h;rw[List.pairwise_cons] at hp;rcases List.mem_cons.1 hm with hm|hm
  ·simp only[kB] at hm;obtain⟨rfl,rfl⟩:=hm;exact h.1
  ·have hlt:=hp.1 _ hm;have hb:=hno t0 g0 si hlt;rcases h.2 with(h0|h0)|h0
   ·have:t0=0:=by simpa using h0
    simp only at hlt;omega
   ·rw[hb] at h0;cases h0
   ·exact od h0 hp.2 t g hm λt' g' hm' hlt'=>hno t' g' (List.mem_cons_of_mem _ hm') hlt'
theorem og {h:aB}{m:Nat}:∀ {l:List (Nat×Oper×List D×D)},gT P ti eq h m l=true->∀ r o tm d,(r,o,tm,d)∈l->m.testBit r=false->cL P ti eq tm o d h=true
 | [],_,r,o,tm,d,hm,_=>by simp at hm
 | (r0,o0,tm0,d0)::l,hp,r,o,tm,d,hm,hb=>by
  simp only[gT,kC,kN] at hp;rcases List.mem_cons.1 hm with hm|hm
  ·simp only[kB] at hm;obtain⟨rfl,rfl,rfl,rfl⟩:=hm;rcases hp.1 with h1|h1
   ·rw[hb] at h1;cases h1
   ·exact h1
  ·exact og hp.2 r o tm d hm hb
end
end Go.Am
/-
 The abstract machine,part 12b: operations that leave the world as it is.
-/
namespace Go.Am
variable [GT]
section
variable {P:Program}{ti:TI}{c:Ctx}{h:aB}
def dP:Op->Bool
 | .move _|.assign _|.pick _ _ _|.build _ _|.nilCheck _|.binOp _ _ _ _ _|.unOp _ _ _|.makeFunc _ _ _|.slice _ _ _ _ _|.fieldAddr _ _ _|.field _ _ _|.indexAddr _ _ _|.index _ _ _|.extract _ _|.makeInterface _ _=>true
 | .load _ _|.lookup _ _ _ _|.convert _ _ _=>true
 | .call c=>match c.callee with|.builtin .len=>true|.builtin .min=>true|.builtin .max=>true|_=>false
 | _=>false
theorem cM {a:Act}{o:Oper}{d:D}{s:Sem Value}(he:execOp a.eval o=do pure (.value (<-s))) (hm:∃ v,s.run P c.w=.ok v c.w∧V c d v):∃ v,(execOp a.eval o).run P c.w=.ok (.value v) c.w∧V c d v:=by
 obtain⟨v,h1,h2⟩:=hm;exact⟨v,by rw[he];simp[h1],h2⟩
theorem ut (T:TOk P ti) (R:Rel c h){id:Nat}{a:Act}{o:Oper}{b:Builtin}{cl:Call}{ds:List D}{d:D}{h':aB}(ho:o.op=.call cl) (hc:cl.callee=.builtin b)
  (hds:VS c ds (cl.args.toList.map a.eval)) (hb:(match Callee.builtin b with|.builtin .len=>true|.builtin .min=>true|.builtin .max=>true|_=>false)=true)
  (hd:ao P ti h id b cl.argTypes.toList o.type ds=some (d,h')):∃ v,(execOp a.eval o).run P c.w=.ok (.value v) c.w∧V c d v:=by
 have hargs:cl.args.map a.eval=(cl.args.toList.map a.eval).toArray:=by apply Array.ext';simp
 have key:∀ s:Sem Value,(∀ consts,builtin b cl.argTypes o.type consts (cl.args.map a.eval)=(do pure (.value (<-s))))->execOp a.eval o=(do pure (.value (<-s))):=λs hs=>by
  unfold execOp;simp only[ho,resolve,hc];exact hs _
 unfold ao at hd;split at hd
 ·simp at hb
 ·simp at hb
 ·rename_i x;obtain⟨v1,l1,e1,g1,g2⟩:=hds.inv;simp only[VS] at g2;subst g2;obtain⟨d',h1,h2⟩:=map_some hd;simp only[kB] at h2;obtain⟨rfl,rfl⟩:=h2;refine cM (key _ λconsts=>rfl) ?_;rw[hargs,e1];have:=se (P:=P) (ty:=o.type) T R h1 g1
  simpa using this
 ·simp at hb
 ·split at hd
  ·rename_i vs hvs;split at hd
   ·rename_i r hr;obtain⟨d',h1,h2⟩:=map_some hd;simp only[kB] at h2;obtain⟨rfl,rfl⟩:=h2;refine cM (key _ λconsts=>rfl) ⟨r,?_,bY c r _ h1⟩;rw[hargs,cQ hvs hds];have:=b8 _ c.w hr
    simpa using this
   ·simp at hd
  ·simp at hd
 ·split at hd
  ·rename_i vs hvs;split at hd
   ·rename_i r hr;obtain⟨d',h1,h2⟩:=map_some hd;simp only[kB] at h2;obtain⟨rfl,rfl⟩:=h2;refine cM (key _ λconsts=>rfl) ⟨r,?_,bY c r _ h1⟩;rw[hargs,cQ hvs hds];have:=b8 _ c.w hr
    simpa using this
   ·simp at hd
  ·simp at hd
 ·simp at hd
theorem F1 (T:TOk P ti) (R:Rel c h){id:Nat}{tmps:List D}{a:Act}(ht:VS c tmps a.tmps.toList){o:Oper}{d:D}{h':aB}(hlk:dP o.op=true)
  (hd:aop P ti tmps h id o=some (d,h')):∃ v,(execOp a.eval o).run P c.w=.ok (.value v) c.w∧V c d v:=by
 unfold aop at hd;split at hd
 ·rename_i x ho;obtain⟨d',h1,h2⟩:=map_some hd;simp only[kB] at h2;obtain⟨rfl,rfl⟩:=h2;exact⟨a.eval x,by unfold execOp;simp only[ho];rfl,aI R.inv ht h1⟩
 ·rename_i x ho;obtain⟨d',h1,h2⟩:=map_some hd;simp only[kB] at h2;obtain⟨rfl,rfl⟩:=h2;exact⟨a.eval x,by unfold execOp;simp only[ho];rfl,aI R.inv ht h1⟩
 ·rename_i cc x y ho;split at hd
  ·rename_i t hc;obtain⟨d',h1,h2⟩:=map_some hd;simp only[kB] at h2;obtain⟨rfl,rfl⟩:=h2;have hb:=aI R.inv ht hc;simp only[V] at hb;refine⟨if t then a.eval x else a.eval y,?_,?_⟩
   ·unfold execOp;simp[ho,hb.2,asBool]
   ·cases t
    ·simpa using aI R.inv ht h1
    ·simpa using aI R.inv ht h1
  ·simp at hd
 ·rename_i t ho;rw[ho] at hlk;simp[dP] at hlk
 ·rename_i t x ho;rw[ho] at hlk;simp[dP] at hlk
 ·rename_i t ps ho;split at hd
  ·rename_i l hl;obtain⟨d',h1,h2⟩:=map_some hd;simp only[kB] at h2;obtain⟨rfl,rfl⟩:=h2;have:=pA (P:=P) T (hZ R.inv ht hl) h1
   refine cM (by unfold execOp;simp only[ho];rfl) ?_;have e:(ps.map λ(i,x)=>(i,a.eval x))=(ps.toList.map λ(i,x)=>(i,a.eval x)).toArray:=by apply Array.ext';simp
   rw[e];exact this
  ·simp at hd
 ·rename_i t n ps ho;rw[ho] at hlk;simp[dP] at hlk
 ·rename_i t x ho;split at hd
  ·rename_i dx hx;obtain⟨d',h1,h2⟩:=map_some hd;simp only[kB] at h2;obtain⟨rfl,rfl⟩:=h2;exact cM (by unfold execOp;simp only[ho]) (mE T R h1 (aI R.inv ht hx))
  ·simp at hd
 ·rename_i t x y ho;rw[ho] at hlk;simp[dP] at hlk
 ·rename_i x ho;split at hd
  ·rename_i dx hx;obtain⟨d',h1,h2⟩:=map_some hd;simp only[kB] at h2;obtain⟨rfl,rfl⟩:=h2;have hv:=aI R.inv ht hx;refine⟨a.eval x,?_,?_⟩
   ·unfold execOp;simp only[ho];unfold fP at h1;split at h1
    ·simp only[V] at hv;obtain⟨_,_,_,hv⟩:=hv;rw[hv];rfl
    ·simp only[V] at hv;obtain⟨_,_,_,hv,_⟩:=hv;rw[hv];rfl
    ·simp only[V] at hv;obtain⟨_,_,hv,_⟩:=hv;rw[hv];rfl
    ·simp at h1
   ·unfold fP at h1;split at h1<;>simp only[kA,reduceCtorEq] at h1;all_goals(subst h1;exact hv)
  ·simp at hd
 ·rename_i op t x y _ ho;split at hd
  ·rename_i dx dy hx hy;obtain⟨d',h1,h2⟩:=map_some hd;simp only[kB] at h2;obtain⟨rfl,rfl⟩:=h2;exact cM (by unfold execOp;simp only[ho]) (tJ h1 (aI R.inv ht hx) (aI R.inv ht hy))
  ·simp at hd
 ·rename_i op _ x ho;split at hd
  ·rename_i v hx;simp only[Option.bind_eq_some_iff] at hx;obtain⟨dx,hx1,hx2⟩:=hx;split at hd
   ·rename_i r hr;obtain⟨d',h1,h2⟩:=map_some hd;simp only[kB] at h2;obtain⟨rfl,rfl⟩:=h2;refine cM (by unfold execOp;simp only[ho];rfl) ⟨r,?_,bY c r _ h1⟩;rw[iS hx2 (aI R.inv ht hx1)];exact b8 _ _ hr
   ·simp at hd
  ·simp at hd
 ·rename_i src dst x ho;split at hd
  ·rename_i dx hx;obtain⟨rfl,hv⟩:=ll T R hd (aI R.inv ht hx);exact cM (by unfold execOp;simp only[ho]) hv
  ·simp at hd
 ·rename_i fn first captured ho;split at hd
  ·rename_i xs ys hx hy;simp only[kA,kB] at hd;obtain⟨rfl,rfl⟩:=hd;refine cM (by unfold execOp;simp only[ho];rfl) ⟨.func fn (first.map a.eval) (captured.map a.eval),rfl,?_⟩;simp only[V];exact⟨first.toList.map a.eval,captured.toList.map a.eval,by congr 1<;>(apply Array.ext';simp),b9 R.inv ht hx,b9 R.inv ht hy⟩
  ·simp at hd
 ·rename_i t r ho;rw[ho] at hlk;simp[dP] at hlk
 ·rename_i t l cc ho;rw[ho] at hlk;simp[dP] at hlk
 ·rename_i t x lo hi mx ho;split at hd
  ·rename_i dx l hh m hx hl hhi hm;obtain⟨d',h1,h2⟩:=map_some hd;simp only[kB] at h2;obtain⟨rfl,rfl⟩:=h2;exact cM (by unfold execOp;simp only[ho]) (oa T h1 (aI R.inv ht hx) (ii R.inv ht hl) (ii R.inv ht hhi) (ii R.inv ht hm))
  ·simp at hd
 ·rename_i t x f ho;split at hd
  ·rename_i dx hx;obtain⟨d',h1,h2⟩:=map_some hd;simp only[kB] at h2;obtain⟨rfl,rfl⟩:=h2;exact cM (by unfold execOp;simp only[ho]) (ji T h1 (aI R.inv ht hx))
  ·simp at hd
 ·rename_i t x f ho;split at hd
  ·rename_i dx hx;obtain⟨d',h1,h2⟩:=map_some hd;simp only[kB] at h2;obtain⟨rfl,rfl⟩:=h2;exact cM (by unfold execOp;simp only[ho]) (o8 T h1 (aI R.inv ht hx))
  ·simp at hd
 ·rename_i t x i ho;split at hd
  ·rename_i dx dy hx hy;obtain⟨d',h1,h2⟩:=map_some hd;simp only[kB] at h2;obtain⟨rfl,rfl⟩:=h2;exact cM (by unfold execOp;simp only[ho]) (jg T h1 (aI R.inv ht hx) (aI R.inv ht hy))
  ·simp at hd
 ·rename_i t x i ho;split at hd
  ·rename_i dx dy hx hy;obtain⟨d',h1,h2⟩:=map_some hd;simp only[kB] at h2;obtain⟨rfl,rfl⟩:=h2;exact cM (by unfold execOp;simp only[ho]) (o4 T h1 (aI R.inv ht hx) (aI R.inv ht hy))
  ·simp at hd
 ·rename_i t x i ok ho;split at hd
  ·rename_i dx dy hx hy;obtain⟨d',h1,h2⟩:=map_some hd;simp only[kB] at h2;obtain⟨rfl,rfl⟩:=h2;exact cM (by unfold execOp;simp only[ho]) (nD T R h1 (aI R.inv ht hx) (aI R.inv ht hy))
  ·simp at hd
 ·rename_i t m k x ho;rw[ho] at hlk;simp[dP] at hlk
 ·rename_i t m k x ho;rw[ho] at hlk;simp[dP] at hlk
 ·rename_i x i ho;split at hd
  ·rename_i cs hx;obtain⟨d',h1,h2⟩:=map_some hd;simp only[kB] at h2;obtain⟨rfl,rfl⟩:=h2;have hv:=aI R.inv ht hx;simp only[V] at hv;obtain⟨ys,hv,hvs⟩:=hv;obtain⟨y,hy,hyv⟩:=hvs.get i _ h1;refine cM (by unfold execOp;simp only[ho];rfl) ⟨y,?_,hyv⟩;rw[hv];simp[Instr.extract,hy]
  ·simp at hd
 ·rename_i cl ho;split at hd
  ·rename_i b hc;split at hd
   ·rename_i ds hds;exact ut T R ho hc (b9 R.inv ht hds) (by rw[ho] at hlk;simp only[dP,hc] at hlk;exact hlk) hd
   ·simp at hd
  ·simp at hd
 ·rename_i t x ho;split at hd
  ·rename_i dx hx;obtain⟨d',h1,h2⟩:=map_some hd;simp only[kB] at h2;obtain⟨rfl,rfl⟩:=h2;exact cM (by unfold execOp;simp only[ho]) (o5 T h1 (aI R.inv ht hx))
  ·simp at hd
 ·rename_i ho;rw[ho] at hlk;simp[dP] at hlk
 ·rename_i ho;rw[ho] at hlk;simp[dP] at hlk
 ·rename_i ho;rw[ho] at hlk;simp[dP] at hlk
 ·simp at hd
end
end Go.Am
/-
 The abstract machine,part 16: a region that draws its order: the walk in the order of the text serves every order.
-/
namespace Go.Am
variable [GT]
open Classical
noncomputable def aR (c:Ctx) (X:Nat->Prop):Ctx:={ S:=c.S,φ:=λid=>if X id then none else c.φ id,w:=c.w }
theorem eQ {c:Ctx}{X Y:Nat->Prop}(h:∀ id,Y id->X id):am (aR c X) (aR c Y):=
 ⟨λ_ h=>h,λid x hx=>by
  simp only[aR] at hx ⊢;by_cases hX:X id
  ·simp[hX] at hx
  ·have hY:¬Y id:=λy=>hX (h id y)
   simpa [hX,hY] using hx,λ_ _=>rfl,λ_ _ _ h=>h⟩
theorem qy {c:Ctx}{X:Nat->Prop}{id:Nat}(h:c.φ id=none):(aR c X).φ id=none:=by simp[aR,h]
theorem Rel.widen {c c':Ctx}{h:aB}(R:Rel c h) (hS:c'.S=c.S) (hw:c'.w=c.w) (hφ:∀ id x,c.φ id=some x->c'.φ id=some x) (hf:∀ id,h.next<=id->c'.φ id=none):Rel c' h:=by
 have K:am c c':=⟨λb hb=>by rw[hS];exact hb,hφ,λb _=>by rw[hw],λb e z hz=>by rw[hw];exact hz⟩;refine⟨λb hb=>by rw[hw];exact R.size b (by rw[<-hS];exact hb),hf,λid box hg=>?_,λid id' box box' b o o' hg hg' h1 h1'=>?_,GT.kept K R.inv⟩
 ·obtain⟨b,o,h1,h2,h3⟩:=R.live id box hg;exact⟨b,o,hφ _ _ h1,by rw[hS];exact h2,h3.keep K (by rw[hw])⟩
 ·obtain⟨b1,o1,k1,_⟩:=R.live id box hg;obtain⟨b2,o2,k2,_⟩:=R.live id' box' hg';have e1:=hφ _ _ k1;have e2:=hφ _ _ k2;rw[h1] at e1;rw[h1'] at e2;injection e1 with e1;injection e2 with e2
  rw[<-e1] at k1;rw[<-e2] at k2;exact R.inj id id' box box' b o o' hg hg' k1 k2
theorem Rel.junk {c:Ctx} {h:aB} (R:Rel c h) (o:Obj):am c { c with w:={ c.w with heap:=c.w.heap.push o } }∧Rel { c with w:={ c.w with heap:=c.w.heap.push o } } h:=by
 have hold:∀ b,b<c.w.heap.size->(c.w.heap.push o)[b]?=c.w.heap[b]?:=λb hb=>by rw[Array.getElem?_push,if_neg om]
 have K:am c { c with w:={ c.w with heap:=c.w.heap.push o } }:=⟨λ_ h=>h,λ_ _ h=>h,λb hb=>hold b (R.size b hb),λb e z hz=>by
  have hlt:b<c.w.heap.size:=by
   unfold World.shape? at hz;split at hz
   ·rename_i hb;exact(Array.getElem?_eq_some_iff.1 hb).1
   ·cases hz
  unfold World.shape? at *;show(match(c.w.heap.push o)[b]? with|some (.cells c elem _)=>some (elem,c.size)|_=>none)=_
  rw[hold b hlt];exact hz⟩
 refine⟨K,λb hb=>?_,R.fresh,λid box hg=>?_,R.inj,GT.kept K R.inv⟩
 ·have:=R.size b hb;simp only[Array.size_push];omega
 ·obtain⟨b,oo,h1,h2,h3⟩:=R.live id box hg;exact⟨b,oo,h1,h2,h3.keep K (hold b h3.lt)⟩
theorem Rel.add {c:Ctx}{h:aB}(R:Rel c h){id b:Nat}{box:Box}(hS:¬c.S b) (hb:BR c b 0 box) (ho:¬bG c h b) (hid:c.φ id=some (b,0)):Rel c (h.put id box):=by
 refine⟨R.size,λj hj=>R.fresh j hj,λj bx hg=>?_,λj j' bx bx' k o o' hg hg' h1 h1'=>?_,R.inv⟩
 ·rw[aB.get_put] at hg;split at hg
  ·rename_i e;subst e;simp only[kA] at hg;subst hg;exact⟨b,0,hid,hS,hb⟩
  ·exact R.live j bx hg
 ·rw[aB.get_put] at hg hg';split at hg
  ·rename_i e;subst e;split at hg'
   ·rename_i e';exact e'
   ·rw[hid] at h1;injection h1 with h1;injection h1 with h1 _;subst h1
    exact absurd ⟨j',bx',o',hg',h1'⟩ ho
  ·split at hg'
   ·rename_i e';subst e';rw[hid] at h1';injection h1' with h1';injection h1' with h1' _;subst h1'
    exact absurd ⟨j,bx,o,hg,h1⟩ ho
   ·exact R.inj j j' bx bx' k o o' hg hg' h1 h1'
theorem nl (base:Nat) (p:Nat×Box) (l:List (Nat×Box)) (g:aB):dL base (p::l) g=(dL base l g).put (base+p.1) p.2:=rfl
theorem qA (base:Nat) (g:aB):∀ (l:List (Nat×Box)) (id:Nat),(∀ p∈l,base+p.1≠id)->(dL base l g).get id=g.get id
 | [],id,_=>rfl
 | p::l,id,h=>by rw[nl,aB.get_put,if_neg (h p si),qA base g l id λq hq=>h q (by simp[hq])]
theorem Rel.adds {c:Ctx}{g:aB}(base:Nat) (R:Rel c g):∀ (l:List (Nat×Box)),(l.map (·.1)).Nodup->(∀ p∈l,∃ b,c.φ (base+p.1)=some (b,0)∧¬c.S b∧BR c b 0 p.2∧¬bG c g b) ->
  (∀ p∈l,∀ q∈l,∀ b,c.φ (base+p.1)=some (b,0)->c.φ (base+q.1)=some (b,0)->p.1=q.1)->Rel c (dL base l g)
 | [],_,_,_=>R
 | p::l,hnd,hp,hinj=>by
  have ih:=Rel.adds base R l (by simp at hnd;exact hnd.2) (λq hq=>hp q (by simp[hq])) (λq hq r hr=>hinj q (by simp[hq]) r (by simp[hr]));obtain⟨b,h3,h4,h5,h6⟩:=hp p si
  have hnot:∀ q∈l,base+q.1≠base+p.1:=λq hq e=>by
   have:q.1=p.1:=by omega
   simp only[List.map_cons,List.nodup_cons] at hnd;exact hnd.1 (by rw[<-this];exact List.mem_map_of_mem hq)
  rw[nl];refine ih.add h4 h5 (λ⟨j,bx,o,hg,hφ⟩=>?_) h3;by_cases hj:∃ q∈l,base+q.1=j
  ·obtain⟨q,hq,rfl⟩:=hj;obtain⟨b',k3,_⟩:=hp q (by simp[hq]);rw[k3] at hφ;injection hφ with hφ;injection hφ with e1 e2;subst e1
   have:=hinj p si q (by simp[hq]) b' h3 k3
   exact hnot q hq (by rw[this])
  ·rw[qA base g l j λq hq e=>hj ⟨q,hq,e⟩] at hg;exact h6 ⟨j,bx,o,hg,hφ⟩
def kZ (L:List Nat) (tm:List D):List D:=(List.range tm.length).map λt=>if t∈L then tm.getD t aM else .any
theorem lM (L:List Nat) (tm:List D):(kZ L tm).length=tm.length:=by simp[kZ]
theorem oD (L:List Nat) (tm:List D){t:Nat}(h:t<tm.length):(kZ L tm)[t]?=some (if t∈L then tm.getD t aM else .any):=by simp[kZ,h]
theorem Dw {L:List Nat}{tm:List D}{x:Operand}(h:∀ t,x=.tmp t->t∈L):ev (kZ L tm) x=ev tm x:=by
 cases x with
 | tmp t=>
  have ht:=h t rfl;simp only[ev]
  have:(kZ L tm).getD t aM=tm.getD t aM:=by
   by_cases hl:t<tm.length
   ·simp only[List.getD];rw[oD L tm hl,if_pos ht];simp[List.getD]
   ·simp only[List.getD];have hl':tm.length<=t:=Nat.le_of_not_lt hl;rw[List.getElem?_eq_none_iff.2 (by rw[lM];exact hl'),List.getElem?_eq_none_iff.2 hl']
  rw[this]
 | _=>rfl
theorem r7 {ops:Array Oper}{o:Oper}{t:Nat}(h:Operand.tmp t∈o.op.operands):t∈looks ops o:=
 List.mem_append_left _ (List.mem_filterMap.2 ⟨.tmp t,by simpa using h,rfl⟩)
theorem iN {ops:Array Oper}{o:Oper}{tm:List D}:∀ x∈o.op.operands,ev (kZ (looks ops o) tm) x=ev tm x:=λx hx=>
 Dw λt e=>by subst e;exact r7 hx
theorem wU {ops:Array Oper}{o:Oper}{tm:List D}:af ops (kZ (looks ops o) tm) o=af ops tm o:=by
 unfold af;cases hg:o.guard with
 | none=>rfl
 | some p=>
  obtain⟨j,want⟩:=p;simp only;congr 1;unfold jt;cases hd:(ops[j]?).bind (·.dst) with
  | none=>rfl
  | some t=>
   simp only;have ht:t∈looks ops o:=List.mem_append_right _ (by simp[hg,hd]);by_cases hl:t<tm.length
   ·rw[oD _ tm hl,if_pos ht];simp[List.getD,hl]
   ·have hl':tm.length<=t:=Nat.le_of_not_lt hl;rw[List.getElem?_eq_none_iff.2 (by rw[lM];exact hl'),List.getElem?_eq_none_iff.2 hl']
theorem VS.of_get {c:Ctx}:∀ {ds:List D}{ys:List Value},ds.length=ys.length->(∀ (t:Nat) (d:D) (y:Value),ds[t]?=some d->ys[t]?=some y->V c d y)->VS c ds ys
 | [],ys,hl,_=>by
  have:ys=[]:=by simpa using hl.symm
  subst this;exact VS.nil
 | d::ds,ys,hl,h=>by
  cases ys with
  | nil=>simp at hl
  | cons y ys=>exact VS.cons (h 0 d y rfl rfl) (VS.of_get (by simpa using hl) λt d' y' h1 h2=>h (t+1) d' y' (by simpa using h1) (by simpa using h2))
section
variable {P:Program}{ti:TI}{cl:Cl}{eq:D->D->Bool}{ops:Array Oper}{base:Nat}{s0:St}{tr:Nat->DS}{val:Nat->D}{box:Nat->Box}{c0:Ctx}{df:List Deferred}{ro:Option Nat}{n:Nat}
def Pn (ops:Array Oper) (tr:Nat->DS) (T:Nat->Prop) (i:Nat):Prop:=IsA ops tr i∧T i∧∀ w,IsW ops tr w->T w->anc (MM ops) w i=false
def exA (ops:Array Oper) (tr:Nat->DS) (base:Nat) (T:Nat->Prop) (id:Nat):Prop:=∃ i,id=base+i∧Pn ops tr T i
def exJ (ops:Array Oper) (tr:Nat->DS) (base:Nat) (T:Nat->Prop) (j id:Nat):Prop:=∃ i,id=base+i∧Pn ops tr T i∧i≠j∧anc (MM ops) j i=false
structure Inv (ops:Array Oper) (base:Nat) (s0:St) (tr:Nat->DS) (val:Nat->D) (box:Nat->Box) (c0:Ctx) (df:List Deferred) (T:Nat->Prop) (k:Nat) (a:Act) (c:Ctx):Prop where
 top:k=0∨∃ w,k=w+1∧IsW ops tr w∧T w
 most:∀ w,IsW ops tr w->T w->w+1<=k
 rel:Rel (aR c (exA ops tr base T)) (HP tr k)
 pn:∀ i,Pn ops tr T i->∃ b,c.φ (base+i)=some (b,0)∧c0.w.heap.size<=b∧¬c.S b∧BR (aR c (exA ops tr base T)) b 0 (box i)∧¬bG (aR c (exA ops tr base T)) (HP tr k) b
 pinj:∀ i i' b,Pn ops tr T i->Pn ops tr T i'->c.φ (base+i)=some (b,0)->c.φ (base+i')=some (b,0)->i=i'
 size:a.tmps.size=s0.tmps.length
 tm:∀ (t:Nat) (y:Value),a.tmps[t]?=some y->(∃ i oi,T i∧ops[i]?=some oi∧oi.dst=some t∧V (aR c (exJ ops tr base T i)) (val i) y) ∨
  ((∀ i oi,T i->ops[i]?=some oi->oi.dst≠some t)∧∃ d,s0.tmps[t]?=some d∧V (aR c (exA ops tr base T)) d y)
 fresh:∀ i,i<ops.size->¬T i->c.φ (base+i)=none
 grow:aZ c0 (bump s0.h ops.size) (aR c (exA ops tr base T)) (HP tr k)
 low:∀ j,j<base->c.φ j=c0.φ j
 dfs:a.defers=df
 closed:oY ops T
 range:∀ i,T i->i<ops.size
theorem Inv.next {T:Nat->Prop}{k:Nat}{a:Act}{c:Ctx}(I:Inv ops base s0 tr val box c0 df T k a c) (hb:base=s0.h.next):base+ops.size<=(HP tr k).next:=by
 have:=I.grow.next;simp only[bump] at this;omega
theorem Inv.view (Z:fF P ti cl eq ops base s0 tr val box){T:Nat->Prop}{k:Nat}{a:Act}{c:Ctx}(I:Inv ops base s0 tr val box c0 df T k a c){j:Nat}{o:Oper}(hj:ops[j]?=some o) (hnT:¬T j)
  (hr:∀ o e,ops[j]?=some o->e∈o.after->Region.binds .any e=true->T e.on):VS (aR c (exJ ops tr base T j)) (kZ (looks ops o) (tr j).tm) a.tmps.toList:=by
 have hlt:=(Array.getElem?_eq_some_iff.1 hj).1;have hl:=tc Z j om;refine VS.of_get (by rw[lM,hl,<-I.size];simp) λt d y hd hy=>?_
 have htl:t<(tr j).tm.length:=by
  have:=(List.getElem?_eq_some_iff.1 hd).1
  rwa [lM] at this
 rw[oD _ _ htl,kA] at hd;split at hd
 ·rename_i hlook;rw[Array.getElem?_toList] at hy;obtain⟨g1,g2⟩:=yF Z j om t (by rw[<-hl];exact htl);have hanc:=λi=>cw Z.ok I.closed j i hr
  have hgd:∀ x,(tr j).tm[t]?=some x->(tr j).tm.getD t aM=x:=λx hx=>by simp[List.getD,hx]
  rcases I.tm t y hy with⟨i,oi,h1,h2,h3,h4⟩|⟨h1,d',h2,h3⟩
  ·have hij:i≠j:=λe=>hnT (e▸h1)
   have hA:anc (MM ops) j i=true:=by
    rcases(yi Z.ok h2 hj hij h3).1 hlook with h|h
    ·exact h
    ·exact absurd (cw Z.ok I.closed i j (λo' e' ho'=>I.closed i o' e' h1 ho') h) hnT
   have hlt':=oR Z.ok j i hA;rw[<-hd,hgd _ (g1 i oi hlt' h2 h3)];refine V.keep (eQ λid hid=>?_) _ _ h4;obtain⟨q,rfl,hq,hqj,hqa⟩:=hid;refine⟨q,rfl,hq,λe=>?_,?_⟩
   ·rw[e,hA] at hqa;cases hqa
   ·cases hx:anc (MM ops) i q with
    | false=>rfl
    | true=>rw[CR Z.ok j i q hA hx] at hqa;cases hqa
  ·have hno:∀ i oi,i<j->ops[i]?=some oi->oi.dst≠some t:=λi oi hi ho hdst=>by
    rcases(yi Z.ok ho hj om hdst).1 hlook with h|h
    ·exact h1 i oi (hanc i h) ho hdst
    ·have:=oR Z.ok i j h;omega
   have:=g2 hno
   rw[h2] at this;rw[<-hd,hgd _ this];exact V.keep (eQ λid ⟨q,e,hq,_⟩=>⟨q,e,hq⟩) _ _ h3
 ·subst hd;simp only[V]
end
end Go.Am
/-
 The abstract machine,part 17: a region that draws its order: each operation keeps the invariant,whenever it comes up;so the walk in the order of the text serves every order.
-/
namespace Go.Am
variable [GT]
open Classical
section
variable {P:Program}{ti:TI}{cl:Cl}{eq:D->D->Bool}{ops:Array Oper}{base:Nat}{s0:St}{tr:Nat->DS}{val:Nat->D}{box:Nat->Box}{c0:Ctx}{df:List Deferred}{ro:Option Nat}{n:Nat}
def ct (T:Nat->Prop) (j:Nat):Nat->Prop:=λi=>T i∨i=j
theorem Bj {o:Oper}(hk:kind o=.pure∨kind o=.read):dP o.op=true:=by
 unfold kind at hk;split at hk<;>simp_all [dP];split at hk<;>simp_all
theorem ym {o:Oper}(h:dP o.op=true):∀ cc,o.op≠.defer cc:=λcc e=>by rw[e] at h;simp[dP] at h
theorem ku {T:Nat->Prop}{j:Nat}(hc:oY ops T) (hr:∀ o e,ops[j]?=some o->e∈o.after->Region.binds .any e=true->T e.on):oY ops (ct T j):=by
 intro i o e hi ho he hb;rcases hi with hi|rfl
 ·exact .inl (hc i o e hi ho he hb)
 ·exact .inl (hr o e ho he hb)
theorem yE {T:Nat->Prop}{j:Nat}{o:Oper}{a:Act}{c c':Ctx}{v:Value}(hj:ops[j]?=some o)
  (htm:∀ (t:Nat) (y:Value),a.tmps[t]?=some y->(∃ i oi,T i∧ops[i]?=some oi∧oi.dst=some t∧V (aR c (exJ ops tr base T i)) (val i) y) ∨
   ((∀ i oi,T i->ops[i]?=some oi->oi.dst≠some t)∧∃ d,s0.tmps[t]?=some d∧V (aR c (exA ops tr base T)) d y))
  (h1:∀ i,T i->am (aR c (exJ ops tr base T i)) (aR c' (exJ ops tr base (ct T j) i))) (h2:am (aR c (exA ops tr base T)) (aR c' (exA ops tr base (ct T j))))
  (hv:V (aR c' (exJ ops tr base (ct T j) j)) (val j) v) :
  ∀ (t:Nat) (y:Value),(a.put o.dst v).tmps[t]?=some y->(∃ i oi,ct T j i∧ops[i]?=some oi∧oi.dst=some t∧V (aR c' (exJ ops tr base (ct T j) i)) (val i) y) ∨
   ((∀ i oi,ct T j i->ops[i]?=some oi->oi.dst≠some t)∧∃ d,s0.tmps[t]?=some d∧V (aR c' (exA ops tr base (ct T j))) d y):=by
 intro t y hy;by_cases ht:o.dst=some t
 ·left
  have hyv:y=v:=by
   rw[ht] at hy;simp only[Act.put] at hy;rw[Array.getElem?_setIfInBounds] at hy;simp only[if_true] at hy;split at hy
   ·simpa using hy.symm
   ·cases hy
  exact⟨j,o,.inr rfl,hj,ht,by rw[hyv];exact hv⟩
 ·have hy':a.tmps[t]?=some y:=by
   cases hd:o.dst with
   | none=>rw[hd] at hy;exact hy
   | some t0=>
    rw[hd] at hy;simp only[Act.put] at hy;rw[Array.getElem?_setIfInBounds_ne (λe=>ht (by rw[hd,e]))] at hy;exact hy
  rcases htm t y hy' with⟨i,oi,a1,a2,a3,a4⟩|⟨a1,d,a2,a3⟩
  ·exact .inl ⟨i,oi,.inl a1,a2,a3,V.keep (h1 i a1) _ _ a4⟩
  ·refine .inr ⟨λi oi hi ho=>?_,d,a2,V.keep h2 _ _ a3⟩;rcases hi with hi|rfl
   ·exact a1 i oi hi ho
   ·rw[hj] at ho;injection ho with ho;subst ho;exact ht
theorem qY (a:Act) (dst:Option Tmp) (v:Value):(a.put dst v).tmps.size=a.tmps.size:=by cases dst<;>simp[Act.put]
theorem lx (a:Act) (dst:Option Tmp) (v:Value):(a.put dst v).defers=a.defers:=by cases dst<;>rfl
theorem DP {T:Nat->Prop}{j:Nat}(hA:¬IsA ops tr j) (hW:¬IsW ops tr j) (i:Nat):Pn ops tr (ct T j) i↔Pn ops tr T i:=by
 constructor
 ·rintro⟨a1,a2,a3⟩;refine⟨a1,a2.resolve_right λe=>hA (e▸a1),λw hw hT=>a3 w hw (.inl hT)⟩
 ·rintro⟨a1,a2,a3⟩;refine⟨a1,.inl a2,λw hw hT=>?_⟩;rcases hT with hT|rfl
  ·exact a3 w hw hT
  ·exact absurd hw hW
theorem B8 {T T':Nat->Prop}(h:∀ i,Pn ops tr T' i↔Pn ops tr T i):exA ops tr base T'=exA ops tr base T:=by
 funext id;apply propext;exact⟨λ⟨i,e,hi⟩=>⟨i,e,(h i).1 hi⟩,λ⟨i,e,hi⟩=>⟨i,e,(h i).2 hi⟩⟩
theorem B7 {T T':Nat->Prop}(h:∀ i,Pn ops tr T' i↔Pn ops tr T i) (j:Nat):exJ ops tr base T' j=exJ ops tr base T j:=by
 funext id;apply propext;exact⟨λ⟨i,e,hi,r⟩=>⟨i,e,(h i).1 hi,r⟩,λ⟨i,e,hi,r⟩=>⟨i,e,(h i).2 hi,r⟩⟩
theorem Inv.quiet {T:Nat->Prop}{k j:Nat}{a:Act}{c:Ctx}{o:Oper}{v:Value}(I:Inv ops base s0 tr val box c0 df T k a c) (hj:ops[j]?=some o)
  (hr:∀ o e,ops[j]?=some o->e∈o.after->Region.binds .any e=true->T e.on) (hA:¬IsA ops tr j) (hW:¬IsW ops tr j) (hv:V (aR c (exJ ops tr base T j)) (val j) v) :
  Inv ops base s0 tr val box c0 df (ct T j) k (a.put o.dst v) c:=by
 have hp:=λi=>DP (ops:=ops) (tr:=tr) (T:=T) hA hW i
 have eA:exA ops tr base (ct T j)=exA ops tr base T:=B8 hp;have eJ:∀ q,exJ ops tr base (ct T j) q=exJ ops tr base T q:=B7 hp
 refine⟨I.top.imp id λ⟨w,h1,h2,h3⟩=>⟨w,h1,h2,.inl h3⟩,λw hw hT=>?_,by rw[eA];exact I.rel,λi hi=>by rw[eA];exact I.pn i ((hp i).1 hi),λi i' b hi hi'=>I.pinj i i' b ((hp i).1 hi) ((hp i').1 hi'),by rw[qY];exact I.size,?_,λi hi hT=>I.fresh i hi λh=>hT (.inl h),by rw[eA];exact I.grow,I.low,by rw[lx];exact I.dfs,
  ku I.closed hr,λi hi=>?_⟩
 ·rcases hT with hT|rfl
  ·exact I.most w hw hT
  ·exact absurd hw hW
 ·refine yE hj I.tm (λi _=>by rw[eJ];exact am.refl _) (by rw[eA];exact am.refl _) (by rw[eJ];exact hv)
 ·rcases hi with hi|rfl
  ·exact I.range i hi
  ·exact(Array.getElem?_eq_some_iff.1 hj).1
theorem s9 (Z:fF P ti cl eq ops base s0 tr val box){T:Nat->Prop}(hc:oY ops T):∀ (w:Nat),IsW ops tr w->T w->∀ j,IsW ops tr j->j<w->T j:=by
 intro w
 induction w using Nat.strongRecOn with
 | _ w ih=>
  intro hW hT j hJ hlt;obtain⟨o,ho,hw,hk⟩:=hW;have hws:=(Array.getElem?_eq_some_iff.1 ho).1;have H:=lO Z w om;have hs:=Z.step w o ho;cases hs with
  | skip hw'=>rw[hw] at hw';simp at hw'
  | pure _ hk'=>rw[hk] at hk';simp at hk'
  | read _ hk'=>rw[hk] at hk';simp at hk'
  | alloc _ hk'=>rw[hk] at hk';simp at hk'
  | write _ _ t g h' r hh ht=>
   have hm:=H.all j hlt hJ
   have hge:j+1<=t:=by
    rw[hh] at hm;rcases List.mem_cons.1 hm with hm|hm
    ·simp only[kB] at hm;omega
    ·have hsd:=H.sorted;rw[hh,List.pairwise_cons] at hsd;have:=hsd.1 _ hm
     simp only at this;omega
   have hA:anc (MM ops) w (t-1)=true:=by
    rcases ht with rfl|ht
    ·omega
    ·exact ht
   have hTt:T (t-1):=cw Z.ok hc w (t-1) (λo e ho he hb=>hc w o e hT ho he hb) hA;by_cases hjt:t-1=j
   ·rw[<-hjt];exact hTt
   ·have hWt:IsW ops tr (t-1):=by
     have:=(H.val t g (by rw[hh];simp)).2
     rcases this with h0|⟨h0,_⟩
     ·omega
     ·exact h0
    exact ih (t-1) (oR Z.ok w _ hA) hWt hTt j hJ om
theorem gX {j:Nat}{o:Oper}(hj:ops[j]?=some o){K:Kd}(h:∃ o,ops[j]?=some o∧af ops (tr j).tm o=some true∧bL ops o=K):af ops (tr j).tm o=some true∧bL ops o=K:=by
 obtain⟨o',ho,h1,h2⟩:=h;rw[hj] at ho;injection ho with ho;subst ho;exact⟨h1,h2⟩
theorem Fd (Z:fF P ti cl eq ops base s0 tr val box) (E:∀ a b,eq a b=true->a=b){T:Nat->Prop}{k j:Nat}{a:Act}{c:Ctx}{o:Oper}(I:Inv ops base s0 tr val box c0 df T k a c) (hj:ops[j]?=some o) (hnT:¬T j)
  (hr:∀ o e,ops[j]?=some o->e∈o.after->Region.binds .any e=true->T e.on) (hw:af ops (tr j).tm o=some true) (hk:bL ops o=.read)
  (hro:bv P ti eq ((MM ops).getD j 0) (tr j).tm o (val j) (tr j).hist=true):∃ h',aop P ti (tr j).tm (HP tr k) 0 o=some (val j,h'):=by
 have hlt:=(Array.getElem?_eq_some_iff.1 hj).1;have H:=lO Z j om
 have fin:cL P ti eq (tr j).tm o (val j) (HP tr k)=true->∃ h',aop P ti (tr j).tm (HP tr k) 0 o=some (val j,h'):=λhs=>by
  unfold cL at hs;split at hs
  ·rename_i d' h' ha;rw[E _ _ hs] at ha;exact⟨h',ha⟩
  ·simp at hs
 have hnoW:¬IsW ops tr j:=λh=>by have:=(gX hj h).2;rw[hk] at this;simp at this
 by_cases hkj:k<=j
 ·have hmem:(k,HP tr k)∈(tr j).hist:=by
   rcases I.top with rfl|⟨w,rfl,h2,h3⟩
   ·exact H.zero
   ·exact H.all w om h2
  refine fin (od hro H.sorted k _ hmem λt' g' hm' hlt'=>?_);cases hx:((MM ops).getD j 0).testBit (t' - 1) with
  | false=>rfl
  | true=>
   have hT:T (t' - 1):=cw Z.ok I.closed j (t' - 1) hr hx
   have hW:IsW ops tr (t' - 1):=by
    rcases(H.val t' g' hm').2 with h0|⟨h0,_⟩
    ·omega
    ·exact h0
   have:=I.most (t' - 1) hW hT
   omega
 ·rcases I.top with h0|⟨w,rfl,h2,h3⟩
  ·omega
  ·have hwj:w≠j:=λe=>hnT (e▸h3)
   obtain⟨ow,how,hww,hkw⟩:=h2;have hws:=(Array.getElem?_eq_some_iff.1 how).1;have hrd:=HH Z w om j o om hj hw hk
   have hna:((MM ops).getD w 0).testBit j=false:=by
    cases hx:((MM ops).getD w 0).testBit j with
    | false=>rfl
    | true=>exact absurd (cw Z.ok I.closed w j (λo e ho he hb=>I.closed w o e h3 ho he hb) hx) hnT
   have hs:=Z.step w ow how;cases hs with
   | skip hw'=>rw[hww] at hw';simp at hw'
   | pure _ hk'=>rw[hkw] at hk';simp at hk'
   | read _ hk'=>rw[hkw] at hk';simp at hk'
   | alloc _ hk'=>rw[hkw] at hk';simp at hk'
   | write _ _ t g h' r hh ht ha hp _ h2'=>
    have hHP:HP tr (w+1)=h':=by simp[HP,h2']
    rw[hHP] at fin ⊢;exact fin (og hp j o _ _ hrd hna)
theorem zf {T:Nat->Prop}{k j:Nat}{a:Act}{c:Ctx}(I:Inv ops base s0 tr val box c0 df T k a c) (hb:base=s0.h.next):Rel (aR c (exJ ops tr base T j)) (HP tr k):=by
 refine I.rel.widen rfl rfl (λid x hx=>(eQ λid' ⟨q,e,hq,_⟩=>⟨q,e,hq⟩:am (aR c (exA ops tr base T)) (aR c (exJ ops tr base T j))).φ id x hx) λid hid=>?_
 have hnext:=I.next hb;have:=I.rel.fresh id hid
 simp only[aR] at this ⊢;by_cases hX:exA ops tr base T id
 ·obtain⟨i,rfl,hi⟩:=hX;have:=I.range i hi.2.1
  omega
 ·simp only[hX,if_false] at this;simp[this]
end
end Go.Am
/-
 The abstract machine,part 18: a region that draws its order: a step that makes a box,a step that writes.
-/
namespace Go.Am
variable [GT]
open Classical
section
variable {P:Program}{ti:TI}{cl:Cl}{eq:D->D->Bool}{ops:Array Oper}{base:Nat}{s0:St}{tr:Nat->DS}{val:Nat->D}{box:Nat->Box}{c0:Ctx}{df:List Deferred}{ro:Option Nat}{n:Nat}
theorem am.of_minus {c c':Ctx}{X X':Nat->Prop}{d d':Ctx}(k:am d d') (hS:d.S=c.S) (hS':d'.S=c'.S) (hw:d.w=c.w) (hw':d'.w=c'.w)
  (hφ:∀ id x,¬X id->c.φ id=some x->¬X' id∧c'.φ id=some x):am (aR c X) (aR c' X'):=by
 refine⟨λb hb=>?_,λid x hx=>?_,λb hb=>?_,λb e z hz=>?_⟩
 ·have h1:d.S b:=by rw[hS];exact hb
  have:=k.S b h1;rw[hS'] at this;exact this
 ·simp only[aR] at hx ⊢;by_cases h1:X id
  ·simp[h1] at hx
  ·simp only[h1,if_false] at hx;obtain⟨h2,h3⟩:=hφ id x h1 hx;simp[h2,h3]
 ·have h1:d.S b:=by rw[hS];exact hb
  have:=k.cells b h1
  rw[hw,hw'] at this;exact this
 ·have:=k.shape b e z (by rw[hw];exact hz)
  rw[hw'] at this;exact this
theorem Inv.alloc (T:TOk P ti) (Z:fF P ti cl eq ops base s0 tr val box) (hb:base=s0.h.next){S:Nat->Prop}{k j:Nat}{a:Act}{c:Ctx}{o:Oper}(I:Inv ops base s0 tr val box c0 df S k a c) (hj:ops[j]?=some o) (hnT:¬S j)
  (hr:∀ o e,ops[j]?=some o->e∈o.after->Region.binds .any e=true->S e.on) (hw:af ops (tr j).tm o=some true) (hk:bL ops o=.alloc)
  (ha:∀ h,aop P ti (tr j).tm h (base+j) o=some (val j,h.put (base+j) (box j))) (hal:u3 (MM ops) ((MM ops).getD j 0) (tr j).hist (tr j).al=true) :
  ∃ v c',(execOp a.eval o).run P c.w=.ok (.value v) c'.w∧Inv ops base s0 tr val box c0 df (ct S j) k (a.put o.dst v) c':=by
 have hlt:=(Array.getElem?_eq_some_iff.1 hj).1;have H:=lO Z j om;have hIA:IsA ops tr j:=⟨o,hj,hw,hk⟩;have hnW:¬IsW ops tr j:=λh=>by have:=(gX hj h).2;rw[hk] at this;simp at this
 have hna:∀ i,Pn ops tr S i->anc (MM ops) j i=false:=λi hi=>by
  cases hx:anc (MM ops) j i with
  | false=>rfl
  | true=>
   have hij:=oR Z.ok j i hx;have hm:=Hd Z j om i hij hi.1;unfold u3 at hal;rw[kL] at hal;have:=hal i hm
   have hx':((MM ops).getD j 0).testBit i=true:=hx;simp only[hx',Bool.not_true,Bool.false_or,List.any_eq_true,kC,bne_iff_ne] at this;obtain⟨p,hp,⟨h1,h2⟩,h3⟩:=this
   have hWp:IsW ops tr (p.1-1):=by
    rcases(H.val p.1 p.2 hp).2 with h0|⟨h0,_⟩
    ·exact absurd h0 h1
    ·exact h0
   have:=hi.2.2 (p.1-1) hWp (cw Z.ok I.closed j (p.1-1) hr h3)
   unfold anc at this;rw[h2] at this;cases this
 have eJA:exJ ops tr base S j=exA ops tr base S:=by
  funext id;apply propext;exact⟨λ⟨i,e,hi,_⟩=>⟨i,e,hi⟩,λ⟨i,e,hi⟩=>⟨i,e,hi,λe'=>hnT (e' ▸ hi.2.1),hna i hi⟩⟩
 have hview:=I.view Z hj hnT hr;rw[eJA] at hview;have hd:aop P ti (kZ (looks ops o) (tr j).tm) (HP tr k) (base+j) o=some (val j,(HP tr k).put (base+j) (box j)):=by rw[oQ iN];exact ha _
 obtain⟨box',hbx,s,he,v,obj,h1,h2,h3⟩:=i6 T I.rel.inv hview (q9 (kg hk)) hd
 have hbox:box'=box j:=by
  simp only[aB.put,aB.mk.injEq,List.cons.injEq,kB] at hbx;exact hbx.2.1.2.symm
 subst hbox;have hφj:=I.fresh j hlt hnT;obtain⟨KJ,RJ⟩:=I.rel.junk obj;refine⟨v,{ S:=c.S,φ:=λq=>if q=base+j then some (c.w.heap.size,0) else c.φ q,w:={ c.w with heap:=c.w.heap.push obj } },by rw[he];simp only[Sem.run_bind];rw[show c.w=(aR c (exA ops tr base S)).w from rfl,h1];rfl,?_⟩;generalize hc':({ S:=c.S,φ:=λq=>if q=base+j then some (c.w.heap.size,0) else c.φ q,w:={ c.w with heap:=c.w.heap.push obj } }:Ctx)=c';have c1:c'.S=c.S:=by rw[<-hc']
 have c2:c'.w={ c.w with heap:=c.w.heap.push obj }:=by rw[<-hc']
 have c3:c'.φ (base+j)=some (c.w.heap.size,0):=by rw[<-hc'];simp
 have c4:∀ q,q≠base+j->c'.φ q=c.φ q:=λq hq=>by rw[<-hc'];simp[hq]
 have hpn:∀ i,Pn ops tr (ct S j) i↔(Pn ops tr S i∨i=j):=λi=>by
  constructor
  ·rintro⟨a1,a2,a3⟩;rcases a2 with a2|a2
   ·exact .inl ⟨a1,a2,λw hW hT=>a3 w hW (.inl hT)⟩
   ·exact .inr a2
  ·rintro(⟨a1,a2,a3⟩|rfl)
   ·refine⟨a1,.inl a2,λw hW hT=>?_⟩;rcases hT with hT|rfl
    ·exact a3 w hW hT
    ·exact absurd hW hnW
   ·refine⟨hIA,.inr rfl,λw hW hT=>?_⟩;rcases hT with hT|rfl
    ·cases hx:anc (MM ops) w i with
     | false=>rfl
     | true=>exact absurd (cw Z.ok I.closed w i (λo e ho he hb=>I.closed w o e hT ho he hb) hx) hnT
    ·exact absurd hW hnW
 have eM:aR c' (exA ops tr base (ct S j))={ S:=c.S,φ:=(aR c (exA ops tr base S)).φ,w:={ c.w with heap:=c.w.heap.push obj } }:=by
  unfold aR;rw[c1,c2];congr 1;funext id;by_cases hid:id=base+j
  ·subst hid
   have:exA ops tr base (ct S j) (base+j):=⟨j,rfl,(hpn j).2 (.inr rfl)⟩
   simp[this,hφj]
  ·by_cases hX:exA ops tr base S id
   ·obtain⟨i,rfl,hi⟩:=hX;have h1':exA ops tr base (ct S j) (base+i):=⟨i,rfl,(hpn i).2 (.inl hi)⟩;have h2':exA ops tr base S (base+i):=⟨i,rfl,hi⟩;simp[h1',h2']
   ·have:¬exA ops tr base (ct S j) id:=λ⟨i,e,hi⟩=>by
     rcases(hpn i).1 hi with hi|rfl
     ·exact hX ⟨i,e,hi⟩
     ·exact hid e
    simp[this,hX,c4 id hid]
 have hRel:Rel (aR c' (exA ops tr base (ct S j))) (HP tr k):=by rw[eM];exact RJ
 have KB:am (aR c (exA ops tr base S)) (aR c' (exA ops tr base (ct S j))):=by rw[eM];exact KJ
 have hown:∀ b,bG (aR c' (exA ops tr base (ct S j))) (HP tr k) b↔bG (aR c (exA ops tr base S)) (HP tr k) b:=λb=>by rw[eM];exact Iff.rfl
 have hltB:∀ i,Pn ops tr S i->∀ b,c.φ (base+i)=some (b,0)->b<c.w.heap.size:=λi hi b hb=>by
  obtain⟨b',h1',_,_,h4',_⟩:=I.pn i hi;rw[hb] at h1';injection h1' with h1';injection h1' with h1' _;subst h1'
  exact h4'.lt
 have hblk:∀ b,b<c.w.heap.size->(aR c' (exA ops tr base (ct S j))).w.heap[b]?=(aR c (exA ops tr base S)).w.heap[b]?:=λb hb=>by
  rw[eM];show(c.w.heap.push obj)[b]?=c.w.heap[b]?;rw[Array.getElem?_push,if_neg om]
 have hij:∀ i,Pn ops tr S i->base+i≠base+j:=λi hi e=>hnT ((by omega:i=j)▸hi.2.1)
 refine⟨I.top.imp id λ⟨w,x1,x2,x3⟩=>⟨w,x1,x2,.inl x3⟩,λw hW hT=>?_,hRel,λi hi=>?_,λi i' b hi hi' hb1 hb2=>?_,by rw[qY];exact I.size,?_,λi hi hT=>?_,?_,λq hq=>?_,by rw[lx];exact I.dfs,ku I.closed hr,λi hi=>?_⟩
 ·rcases hT with hT|rfl
  ·exact I.most w hW hT
  ·exact absurd hW hnW
 ·rcases(hpn i).1 hi with hi|rfl
  ·obtain⟨b,x1,x2,x3,x4,x5⟩:=I.pn i hi;exact⟨b,by rw[c4 _ (hij i hi)];exact x1,x2,by rw[c1];exact x3,x4.keep KB (hblk b x4.lt),λh=>x5 ((hown b).1 h)⟩
  ·refine⟨c.w.heap.size,c3,I.grow.size,by rw[c1];exact λhs=>by have:=I.rel.size _ hs;simp only[aR] at this;omega,?_,λ⟨q,bx,oo,hg,hφ⟩=>?_⟩
   ·rw[eM];rw[eM] at KB;cases hbj:box i with
    | cells cs ex=>
     rw[hbj] at h3;obtain⟨ar,e,ys,tl,rfl,y2,y3,y4⟩:=h3;exact⟨ar,e,[],ys,tl,Array.getElem?_push_size,by simpa using y2,rfl,VS.keep KB _ _ y3,y4⟩
    | map es=>
     rw[hbj] at h3;obtain⟨rfl,rfl⟩:=h3;exact⟨rfl,#[],0,Array.getElem?_push_size,by simp[ES],by simp[StB]⟩
    | loop=>rw[hbj] at h3;exact h3.elim
    | dfr=>rw[hbj] at h3;exact h3.elim
    | iter=>rw[hbj] at h3;exact h3.elim
   ·rw[eM] at hφ;obtain⟨b1,o1,y1,_,y3⟩:=I.rel.live q bx hg;have hφ':(aR c (exA ops tr base S)).φ q=some (c.w.heap.size,oo):=hφ;rw[y1] at hφ';injection hφ' with hφ';injection hφ' with e1 _
    have hl:=y3.lt;have e2:(aR c (exA ops tr base S)).w.heap.size=c.w.heap.size:=rfl;omega
 ·rcases(hpn i).1 hi with g1|e1<;>rcases(hpn i').1 hi' with g2|e2
  ·rw[c4 _ (hij i g1)] at hb1;rw[c4 _ (hij i' g2)] at hb2;exact I.pinj i i' b g1 g2 hb1 hb2
  ·rw[c4 _ (hij i g1)] at hb1;rw[e2,c3] at hb2;injection hb2 with hb2;injection hb2 with hb2 _
   have:=hltB i g1 b hb1;omega
  ·rw[c4 _ (hij i' g2)] at hb2;rw[e1,c3] at hb1;injection hb1 with hb1;injection hb1 with hb1 _
   have:=hltB i' g2 b hb2;omega
  ·rw[e1,e2]
 ·refine yE hj I.tm (λi hSi=>?_) KB ?_
  ·refine am.of_minus KJ rfl c1.symm rfl c2.symm λid x hX hx=>?_
   have hid:id≠base+j:=λe=>by rw[e,hφj] at hx;cases hx
   refine⟨λ⟨q,e,hq,hqi,hqa⟩=>?_,by rw[c4 id hid];exact hx⟩;rcases(hpn q).1 hq with hq|rfl
   ·exact hX ⟨q,e,hq,hqi,hqa⟩
   ·exact hid e
  ·have:=h2 (aR c' (exJ ops tr base (ct S j) j)).S (aR c' (exJ ops tr base (ct S j) j)).φ λq=>by
    by_cases hq:q=base+j
    ·subst hq;left;have hnx:¬exJ ops tr base (ct S j) j (base+j):=λ⟨q,e,_,hqj,_⟩=>hqj om
     simp only[aR,hnx,if_false,c3];simp[Ctx.push]
    ·exact .inr hq
   have e:({ S:=(aR c' (exJ ops tr base (ct S j) j)).S,φ:=(aR c' (exJ ops tr base (ct S j) j)).φ,w:=((aR c (exA ops tr base S)).push (base+j) obj).w }:Ctx)=aR c' (exJ ops tr base (ct S j) j):=by
    simp only[aR,Ctx.push,c2]
   rw[e] at this;exact this
 ·have hne:base+i≠base+j:=λe=>hT (.inr om)
  rw[c4 _ hne];exact I.fresh i hi λh=>hT (.inl h)
 ·refine I.grow.trans ⟨KB,by rw[eM];rfl,by rw[eM];exact⟨rfl,kP _⟩,by rw[eM];rfl,by rw[eM];simp[aR],kP _,λb hb _=>hblk b hb,λb ho=>.inr ((hown b).1 ho),λb hs=>.inl (by rw[eM] at hs;exact hs)⟩
 ·have hne:q≠base+j:=by omega
  rw[c4 _ hne];exact I.low q hq
 ·rcases hi with hi|rfl
  ·exact I.range i hi
  ·exact hlt
theorem lz (Z:fF P ti cl eq ops base s0 tr val box):∀ j,j<=ops.size->((tr j).pend.map (·.1)).Nodup
 | 0,_=>by rw[Z.init];simp
 | j+1,hj=>by
  have hlt:j<ops.size:=by omega
  have hoj:ops[j]?=some ops[j]:=by simp[hlt]
  have hs:=Z.step j ops[j] hoj;have ih:=lz Z j om;cases hs with
  | skip _ _ _ _ h3=>rw[h3];exact ih
  | pure _ _ _ _ _ h3=>rw[h3];exact ih
  | read _ _ _ _ _ h3=>rw[h3];exact ih
  | alloc _ _ _ _ _ _ h3=>
   rw[h3,List.map_cons,List.nodup_cons];refine⟨λhm=>?_,ih⟩;obtain⟨p,hp,he⟩:=List.mem_map.1 hm;have:=((mv Z j om p.1 p.2).1 hp).2.1
   omega
  | write _ _ _ _ _ _ _ _ _ _ _ _ h3=>
   rw[h3];exact List.Nodup.sublist (List.Sublist.map _ List.filter_sublist) ih
end
end Go.Am
/-
 The abstract machine,part 19: a region that draws its order: a step that writes;the whole.
-/
namespace Go.Am
variable [GT]
open Classical
section
variable {P:Program}{ti:TI}{cl:Cl}{eq:D->D->Bool}{ops:Array Oper}{base:Nat}{s0:St}{tr:Nat->DS}{val:Nat->D}{box:Nat->Box}{c0:Ctx}{df:List Deferred}{ro:Option Nat}{n:Nat}
theorem Inv.adds {S:Nat->Prop}{k:Nat}{a:Act}{c:Ctx}(I:Inv ops base s0 tr val box c0 df S k a c){X:Nat->Prop}(hX:∀ id,X id->exA ops tr base S id) (hfr:∀ id,(HP tr k).next<=id->(aR c X).φ id=none)
  {L:List (Nat×Box)} (hnd:(L.map (·.1)).Nodup) (hL:∀ p∈L,Pn ops tr S p.1∧p.2=box p.1∧¬X (base+p.1)) :
  Rel (aR c X) (dL base L (HP tr k))∧(∀ b,bG (aR c X) (dL base L (HP tr k)) b->bG (aR c (exA ops tr base S)) (HP tr k) b∨∃ p∈L,c.φ (base+p.1)=some (b,0)):=by
 have K:am (aR c (exA ops tr base S)) (aR c X):=eQ hX
 have hown:∀ b,bG (aR c X) (HP tr k) b->bG (aR c (exA ops tr base S)) (HP tr k) b:=λb ⟨q,bx,o,hg,hφ⟩=>by
  obtain⟨b1,o1,y1,_⟩:=I.rel.live q bx hg;have:=K.φ _ _ y1
  rw[hφ] at this;injection this with this
  exact⟨q,bx,o,hg,by rw[this];exact y1⟩
 have R0:Rel (aR c X) (HP tr k):=I.rel.widen rfl rfl K.φ hfr;refine⟨Rel.adds base R0 L hnd (λp hp=>?_) (λp hp q hq b h1 h2=>?_),λb ⟨q,bx,o,hg,hφ⟩=>?_⟩
 ·obtain⟨h1,h2,h3⟩:=hL p hp;obtain⟨b,x1,x2,x3,x4,x5⟩:=I.pn p.1 h1;exact⟨b,by simp only[aR,h3,if_false];exact x1,x3,by rw[h2];exact x4.keep K rfl,λho=>x5 (hown b ho)⟩
 ·obtain⟨g1,_,g3⟩:=hL p hp;obtain⟨g4,_,g6⟩:=hL q hq;simp only[aR,g3,if_false] at h1;simp only[aR,g6,if_false] at h2;exact I.pinj p.1 q.1 b g1 g4 h1 h2
 ·by_cases hq:∃ p∈L,base+p.1=q
  ·obtain⟨p,hp,rfl⟩:=hq;obtain⟨g1,_,g3⟩:=hL p hp;simp only[aR,g3,if_false] at hφ;obtain⟨b',x1,_⟩:=I.pn p.1 g1;rw[x1] at hφ;injection hφ with hφ;injection hφ with e1 _;subst e1
   exact .inr ⟨p,hp,x1⟩
  ·rw[qA base _ L q λp hp e=>hq ⟨p,hp,e⟩] at hg;exact .inl (hown b ⟨q,bx,o,hg,hφ⟩)
theorem Inv.write (T:TOk P ti) (C:gm P cl) (Z:fF P ti cl eq ops base s0 tr val box) (hb:base=s0.h.next){S:Nat->Prop}{k j:Nat}{a:Act}{c:Ctx}{o:Oper}(I:Inv ops base s0 tr val box c0 df S k a c) (hj:ops[j]?=some o) (hnT:¬S j)
  (hr:∀ o e,ops[j]?=some o->e∈o.after->Region.binds .any e=true->S e.on) (hw:af ops (tr j).tm o=some true) (hk:bL ops o=.write) {t:Nat} {g h':aB} {r:List (Nat×aB)}
  (hh:(tr j).hist=(t,g)::r) (ht:t=0∨((MM ops).getD j 0).testBit (t-1)=true)
  (ha:bU P ti cl (tr j).tm (dL base ((tr j).pend.filter λp=>((MM ops).getD j 0).testBit p.1) g) (base+j) o=some (val j,h')) (h2:(tr (j+1)).hist=(j+1,h')::(tr j).hist)
  {K:Act->World->Prop} {Q:Exit->Act->World->Prop} (hK:∀ a' c',Inv ops base s0 tr val box c0 df (ct S j) (j+1) a' c'->K a' c'.w):o.wpIn (WF ro) n P a c.w K Q:=by
 have hlt:=(Array.getElem?_eq_some_iff.1 hj).1;have H:=lO Z j om;have hIW:IsW ops tr j:=⟨o,hj,hw,hk⟩;have hnA:¬IsA ops tr j:=λh=>by have:=(gX hj h).2;rw[hk] at this;simp at this
 have hHP:HP tr (j+1)=h':=by simp[HP,h2]
 have hanc:=λi=>cw Z.ok I.closed j i hr
 have hlater:∀ w,IsW ops tr w->S w->w<j:=λw hW hSw=>by
  rcases Nat.lt_trichotomy w j with h|h|h
  ·exact h
  ·exact absurd (h▸hSw) hnT
  ·exact absurd (s9 Z I.closed w hW hSw j hIW h) hnT
 have htag:∀ w,IsW ops tr w->w<j->w+1<=t:=λw hW hwj=>by
  have hm:=H.all w hwj hW;rw[hh] at hm;rcases List.mem_cons.1 hm with hm|hm
  ·simp only[kB] at hm;omega
  ·have hsd:=H.sorted;rw[hh,List.pairwise_cons] at hsd;have:=hsd.1 _ hm
   simp only at this;omega
 have hg:g=HP tr t∧(t=0∨(IsW ops tr (t-1)∧t<=j)):=H.val t g (by rw[hh];simp)
 have hSt:t=0∨(IsW ops tr (t-1)∧S (t-1)):=by
  rcases ht with h|h
  ·exact .inl h
  ·rcases hg.2 with h0|⟨h0,_⟩
   ·exact .inl h0
   ·exact .inr ⟨h0,hanc _ h⟩
 have hkt:k=t:=by
  have l1:t<=k:=by
   rcases hSt with h|⟨h1,h2⟩
   ·omega
   ·have:=I.most _ h1 h2;omega
  have l2:k<=t:=by
   rcases I.top with h|⟨w,h1,h2,h3⟩
   ·omega
   ·have:=htag w h2 (hlater w h2 h3);omega
  omega
 subst hkt
 have hallS:∀ w,IsW ops tr w->w<j->S w:=λw hW hwj=>by
  have:=htag w hW hwj
  rcases hSt with h|⟨h1,h2⟩
  ·omega
  ·by_cases e:w=k-1
   ·rw[e];exact h2
   ·exact s9 Z I.closed (k-1) h1 h2 w hW om
 rw[hg.1] at ha;generalize hLdef:(tr j).pend.filter (λp=>((MM ops).getD j 0).testBit p.1)=L at ha
 have hL:∀ p,p∈L↔(Pn ops tr S p.1∧anc (MM ops) j p.1=true∧p.2=box p.1):=λp=>by
  rw[<-hLdef,List.mem_filter,mv Z j om p.1 p.2];constructor
  ·rintro⟨⟨a1,a2,a3,a4⟩,a5⟩;exact⟨⟨a1,hanc _ a5,λw hW hSw=>a4 w (hlater w hW hSw) hW⟩,a5,a3⟩
  ·rintro⟨⟨a1,a2,a3⟩,a4,a5⟩;exact⟨⟨a1,oR Z.ok j _ a4,a5,λw hwj hW=>a3 w hW (hallS w hW hwj)⟩,a4⟩
 have hnd:(L.map (·.1)).Nodup:=by rw[<-hLdef];exact List.Nodup.sublist (List.Sublist.map _ List.filter_sublist) (lz Z j om)
 have hexF:∀ id,exJ ops tr base S j id↔∃ i,id=base+i∧Pn ops tr S i∧anc (MM ops) j i=false:=λid=>
  ⟨λ⟨i,e,h1,_,h3⟩=>⟨i,e,h1,h3⟩,λ⟨i,e,h1,h3⟩=>⟨i,e,h1,λe'=>hnT (e' ▸ h1.2.1),h3⟩⟩
 have hJA:∀ id,exJ ops tr base S j id->exA ops tr base S id:=λid ⟨i,e,h1,_⟩=>⟨i,e,h1⟩
 obtain⟨Rv,Ov⟩:=I.adds (X:=exJ ops tr base S j) hJA ((zf (j:=j) I hb).fresh) hnd λp hp=>by
  obtain⟨h1,h2,h3⟩:=(hL p).1 hp;exact⟨h1,h3,λ⟨i,e,_,_,h5⟩=>by rw[show i=p.1 from by omega,h2] at h5;cases h5⟩
 have hnext:=I.next hb;have hview:=I.view Z hj hnT hr;have hd:bU P ti cl (kZ (looks ops o) (tr j).tm) (dL base L (HP tr k)) (base+j) o=some (val j,h'):=by rw[vU iN];exact ha
 have hφj:=I.fresh j hlt hnT;refine jz (c:=aR c (exJ ops tr base S j)) T C Rv (qy hφj) (by show base+j<(HP tr k).next;omega) hview hd λv c' k1 k2 k3 k4=>?_
 have hnextv:(dL base L (HP tr k)).next=(HP tr k).next:=rfl;have hJφ:∀ q,q<(HP tr k).next->q≠base+j->c'.φ q=(aR c (exJ ops tr base S j)).φ q:=λq h1 h2=>k4 q h1 h2
 -- the blocks of the boxes left out are nobody's
 have hframe:∀ i,Pn ops tr S i->anc (MM ops) j i=false->∃ b,c.φ (base+i)=some (b,0)∧c0.w.heap.size<=b∧b<c.w.heap.size∧¬c.S b∧BR (aR c (exA ops tr base S)) b 0 (box i)∧¬bG (aR c (exJ ops tr base S j)) (dL base L (HP tr k)) b:=λi hi hia=>by
  obtain⟨b,x1,x2,x3,x4,x5⟩:=I.pn i hi;refine⟨b,x1,x2,x4.lt,x3,x4,λho=>?_⟩;rcases Ov b ho with h|⟨p,hp,hpb⟩
  ·exact x5 h
  ·obtain⟨g1,g2,_⟩:=(hL p).1 hp;have:=I.pinj i p.1 b hi g1 x1 hpb
   rw[<-this,hia] at g2;cases g2
 have hpn:∀ i,Pn ops tr (ct S j) i↔(Pn ops tr S i∧anc (MM ops) j i=false):=λi=>by
  constructor
  ·rintro⟨a1,a2,a3⟩;exact⟨⟨a1,a2.resolve_right λe=>hnA (e▸a1),λw hW hT=>a3 w hW (.inl hT)⟩,a3 j hIW (.inr rfl)⟩
  ·rintro⟨⟨a1,a2,a3⟩,a4⟩;refine⟨a1,.inl a2,λw hW hT=>?_⟩;rcases hT with hT|rfl
   ·exact a3 w hW hT
   ·exact a4
 have hexA':∀ id,exA ops tr base (ct S j) id↔exJ ops tr base S j id:=λid=>by
  rw[hexF];exact⟨λ⟨i,e,hi⟩=>⟨i,e,(hpn i).1 hi⟩,λ⟨i,e,hi⟩=>⟨i,e,(hpn i).2 hi⟩⟩
 have hcnone:∀ id,exJ ops tr base S j id->c'.φ id=none:=λid hid=>by
  obtain⟨i,rfl,h1,h2,h3⟩:=hid;have:=I.range i h1.2.1
  rw[hJφ (base+i) om om]
  have:exJ ops tr base S j (base+i):=⟨i,rfl,h1,h2,h3⟩
  simp[aR,this]
 generalize hc2:({ S:=c'.S,φ:=λid=>if exJ ops tr base S j id then c.φ id else c'.φ id,w:=c'.w }:Ctx)=c2;have d1:c2.S=c'.S:=by rw[<-hc2]
 have d2:c2.w=c'.w:=by rw[<-hc2]
 have d3:∀ id,exJ ops tr base S j id->c2.φ id=c.φ id:=λid h=>by rw[<-hc2];simp[h]
 have d4:∀ id,¬exJ ops tr base S j id->c2.φ id=c'.φ id:=λid h=>by rw[<-hc2];simp[h]
 have eM:aR c2 (exA ops tr base (ct S j))=c':=by
  have:(λid=>if exA ops tr base (ct S j) id then none else c2.φ id)=c'.φ:=by
   funext id;by_cases h:exJ ops tr base S j id
   ·have h':=(hexA' id).2 h;simp[h',hcnone id h]
   ·have h':¬exA ops tr base (ct S j) id:=λx=>h ((hexA' id).1 x)
    simp[h',d4 id h]
  unfold aR;rw[this,d1,d2]
 have KJ:am (aR c (exA ops tr base S)) (aR c (exJ ops tr base S j)):=eQ hJA;have KB:am (aR c (exA ops tr base S)) c':=KJ.trans k3.keeps
 have hOvNew:∀ b,bG (aR c (exJ ops tr base S j)) (dL base L (HP tr k)) b->c0.w.heap.size<=b∨bG c0 (bump s0.h ops.size) b:=λb ho=>by
  rcases Ov b ho with h|⟨p,hp,hpb⟩
  ·exact I.grow.own b h
  ·obtain⟨g1,_⟩:=(hL p).1 hp;obtain⟨b',x1,x2,_⟩:=I.pn p.1 g1;rw[x1] at hpb;injection hpb with hpb;injection hpb with e1 _;subst e1
   exact .inl x2
 have hBsz:(aR c (exJ ops tr base S j)).w.heap.size=c.w.heap.size:=rfl;have hg0:=I.grow.size;have hg0':c0.w.heap.size<=c.w.heap.size:=hg0;have:=hK (a.put o.dst v) c2 ?_
 ·rw[d2] at this;exact this
 refine⟨.inr ⟨j,rfl,hIW,.inr rfl⟩,λw hW hT=>?_,by rw[eM,hHP];exact k2,λi hi=>?_,λi i' b hi hi' hb1 hb2=>?_,by rw[qY];exact I.size,?_,λi hi hT=>?_,?_,λq hq=>?_,by rw[lx];exact I.dfs,ku I.closed hr,λi hi=>?_⟩
 ·rcases hT with hT|rfl
  ·have:=hlater w hW hT;omega
  ·omega
 ·obtain⟨hi1,hi2⟩:=(hpn i).1 hi;obtain⟨b,x1,x2,x3,x4,x5,x6⟩:=hframe i hi1 hi2;have hex:exJ ops tr base S j (base+i):=(hexF _).2 ⟨i,rfl,hi1,hi2⟩
  have hnS:¬c'.S b:=λhs=>by
   rcases k3.stable b hs with h|h|h
   ·exact x4 h
   ·rw[hBsz] at h;omega
   ·exact x6 h
  refine⟨b,by rw[d3 _ hex];exact x1,x2,by rw[d1];exact hnS,?_,?_⟩
  ·rw[eM];exact x5.keep KB (k3.frame b (by rw[hBsz];exact x3) x6)
  ·rw[eM,hHP];intro ho;rcases k3.own b ho with h|h
   ·rw[hBsz] at h;omega
   ·exact x6 h
 ·obtain⟨g1,g2⟩:=(hpn i).1 hi;obtain⟨g3,g4⟩:=(hpn i').1 hi';rw[d3 _ ((hexF _).2 ⟨i,rfl,g1,g2⟩)] at hb1;rw[d3 _ ((hexF _).2 ⟨i',rfl,g3,g4⟩)] at hb2;exact I.pinj i i' b g1 g3 hb1 hb2
 ·refine yE hj I.tm (λi hSi=>?_) (by rw[eM];exact KB) ?_
  ·refine am.of_minus k3.keeps rfl d1.symm rfl d2.symm λid x hX hx=>?_
   refine⟨λ⟨q,e,hq,hqi,hqa⟩=>hX ⟨q,e,((hpn q).1 hq).1,hqi,hqa⟩,?_⟩;by_cases h:exJ ops tr base S j id
   ·rw[d3 id h];exact hx
   ·rw[d4 id h];exact k3.keeps.φ id x (by simp only[aR,h,if_false];exact hx)
  ·have KV:am c' (aR c2 (exJ ops tr base (ct S j) j)):=by
    refine⟨λb hb=>by show c2.S b;rw[d1];exact hb,λid x hx=>?_,λb _=>by show c2.w.heap[b]?=_;rw[d2],λb e z hz=>by show c2.w.shape? b=_;rw[d2];exact hz⟩;have h1:¬exJ ops tr base S j id:=λh=>by rw[hcnone id h] at hx;cases hx
    have h2:¬exJ ops tr base (ct S j) j id:=λ⟨q,e,hq,hqj,hqa⟩=>h1 ⟨q,e,((hpn q).1 hq).1,hqj,hqa⟩
    simp only[aR,h2,if_false,d4 id h1];exact hx
   exact V.keep KV _ _ k1
 ·have hne:base+i≠base+j:=λe=>hT (.inr om)
  have hnS:¬S i:=λh=>hT (.inl h)
  have hnx:¬exJ ops tr base S j (base+i):=λ⟨q,e,h1,_⟩=>hnS ((by omega:q=i)▸h1.2.1)
  rw[d4 _ hnx,hJφ (base+i) om hne];exact qy (I.fresh i hi hnS)
 ·rw[eM,hHP];refine⟨I.grow.keeps.trans KB,k3.os.trans I.grow.os,k3.tape.trans I.grow.tape,k3.output.trans I.grow.output,Nat.le_trans hg0 k3.size,Nat.le_trans I.grow.next k3.next,λb hb hno=>?_,λb ho=>?_,λb hs=>?_⟩
  ·rw[k3.frame b (by rw[hBsz];omega) λho=>by
    rcases hOvNew b ho with h|h
    ·omega
    ·exact hno h]
   exact I.grow.frame b hb hno
  ·rcases k3.own b ho with h|h
   ·rw[hBsz] at h;exact .inl om
   ·exact hOvNew b h
  ·rcases k3.stable b hs with h|h|h
   ·exact I.grow.stable b h
   ·rw[hBsz] at h;exact .inr (.inl om)
   ·exact .inr (hOvNew b h)
 ·have hnx:¬exJ ops tr base S j q:=λ⟨i,e,_⟩=>by omega
  rw[d4 _ hnx,hJφ q om om];simp only[aR,hnx,if_false];exact I.low q hq
 ·rcases hi with hi|rfl
  ·exact I.range i hi
  ·exact hlt
end
end Go.Am
/-
 The abstract machine,part 20: a region that draws its order: every step keeps the invariant;the region as a whole.
-/
namespace Go.Am
variable [GT]
open Classical
section
variable {P:Program}{ti:TI}{cl:Cl}{eq:D->D->Bool}{ops:Array Oper}{base:Nat}{s0:St}{tr:Nat->DS}{val:Nat->D}{box:Nat->Box}{c0:Ctx}{df:List Deferred}{ro:Option Nat}{n:Nat}
theorem EA (T:TOk P ti) (C:gm P cl) (E:∀ a b,eq a b=true->a=b) (Z:fF P ti cl eq ops base s0 tr val box) (hb:base=s0.h.next){S:Nat->Prop}{k j:Nat}{a:Act}{c:Ctx}(I:Inv ops base s0 tr val box c0 df S k a c)
  {o:Oper} (hj:ops[j]?=some o) (hnT:¬S j) (hr:∀ o e,ops[j]?=some o->e∈o.after->Region.binds .any e=true->S e.on) {K:Act->World->Prop} {Q:Exit->Act->World->Prop}
  (hK:∀ k' a' c',Inv ops base s0 tr val box c0 df (ct S j) k' a' c'->K a' c'.w):wpOpIn (WF ro) n P ops Q j K a c.w:=by
 have hview:=I.view Z hj hnT hr;have hwant:∀ b,af ops (tr j).tm o=some b->Region.wanted o (yielded ops a.tmps)=b:=λb h=>bO hview (by rw[wU];exact h)
 have RJ:=zf (j:=j) I hb
 have look:∀ {h':aB} {g:aB},af ops (tr j).tm o=some true->Rel (aR c (exJ ops tr base S j)) g->(bL ops o=.pure∨bL ops o=.read)->aop P ti (tr j).tm g 0 o=some (val j,h')->wpOpIn (WF ro) n P ops Q j K a c.w:=λ{h' g} hw R hk ha=>by
  have hlk:=Bj (hk.imp rA jQ);obtain⟨v,h1,h2⟩:=F1 T R hview hlk (by rw[oQ iN];exact ha);unfold wpOpIn;simp only[hj,hwant _ hw,if_true];refine⟨λ_ _=>trivial,?_⟩;have h1':(execOp a.eval o).run P c.w=.ok (.value v) c.w:=h1;rw[Oper.semAt_eq _ _ _ (ym hlk),h1'];refine hK k (a.put o.dst v) c (I.quiet hj hr (λh=>?_) (λh=>?_) h2)
  ·have:=(gX hj h).2;rcases hk with hk|hk<;>(rw[hk] at this;simp at this)
  ·have:=(gX hj h).2;rcases hk with hk|hk<;>(rw[hk] at this;simp at this)
 have hs:=Z.step j o hj;cases hs with
 | skip hw hd=>
  unfold wpOpIn;simp only[hj,hwant _ hw];refine⟨λ_ _=>trivial,hK k _ c (I.quiet hj hr (λh=>?_) (λh=>?_) (by rw[hd];exact V.undef))⟩
  ·have:=(gX hj h).1;rw[hw] at this;simp at this
  ·have:=(gX hj h).1;rw[hw] at this;simp at this
 | pure hw hk ha=>exact look hw RJ (.inl hk) (ha (HP tr k) 0)
 | read hw hk ha=>
  obtain⟨h',hx⟩:=Fd Z E I hj hnT hr hw hk ha;exact look hw RJ (.inr hk) hx
 | alloc hw hk ha hal=>
  obtain⟨v,c',h1,h2⟩:=I.alloc T Z hb hj hnT hr hw hk ha hal;unfold wpOpIn;simp only[hj,hwant _ hw,if_true];refine⟨λ_ _=>trivial,?_⟩;have hnd:∀ cc,o.op≠.defer cc:=λcc e=>by have:=q9 (kg hk);rw[e] at this;simp[dH] at this
  rw[Oper.semAt_eq _ _ _ hnd,h1];exact hK k _ c' h2
 | write hw hk t g h' r hh ht ha hp h1 h2=>
  unfold wpOpIn;simp only[hj,hwant _ hw,if_true];exact I.write T C Z hb hj hnT hr hw hk hh ht ha h2 λa' c' h=>hK _ a' c' h
theorem ou {c:Ctx}{X:Nat->Prop}(h:∀ id,¬X id):aR c X=c:=by
 unfold aR
 have:(λid=>if X id then none else c.φ id)=c.φ:=by funext id;simp[h id]
 rw[this]
theorem wp (Z:fF P ti cl eq ops base s0 tr val box) (hb:base=s0.h.next){c:Ctx}{a:Act}(hf:Fit c s0 a):Inv ops base s0 tr val box c a.defers (λ_=>False) 0 a c:=by
 have hP:∀ i,¬Pn ops tr (λ_=>False) i:=λi h=>h.2.1
 have eA:aR c (exA ops tr base λ_=>False)=c:=ou λid ⟨i,_,hi⟩=>hP i hi
 have hH:HP tr 0=bump s0.h ops.size:=by simp[HP,Z.init]
 refine⟨.inl rfl,λ_ _ h=>h.elim,by rw[eA,hH];exact hf.rel.bump,λi hi=>absurd hi (hP i),λi _ _ hi=>absurd hi (hP i),?_,λt y hy=>?_,λi _ _=>hf.rel.fresh _ om,by rw[eA,hH];exact aZ.refl _ _,λ_ _=>rfl,rfl,λ_ _ _ h=>h.elim,λ_ h=>h.elim⟩
 ·have:=hf.tmps.length;simpa using this
 ·refine .inr ⟨λ_ _ h=>h.elim,?_⟩;have hl:=hf.tmps.length
  have ht:t<s0.tmps.length:=by
   have:=(Array.getElem?_eq_some_iff.1 hy).1
   simp at hl;omega
  obtain⟨y',hy',hv⟩:=hf.tmps.get t _ (List.getElem?_eq_getElem ht);rw[Array.getElem?_toList,hy] at hy';injection hy' with hy';subst hy'
  exact⟨_,List.getElem?_eq_getElem ht,by rw[eA];exact hv⟩
theorem sk (Z:fF P ti cl eq ops base s0 tr val box) (hb:base=s0.h.next){S:Nat->Prop}(hall:∀ i,i<ops.size->S i){k:Nat}{a:Act}{c:Ctx}(I:Inv ops base s0 tr val box c0 df S k a c)
  {t:Nat} {g:aB} {r:List (Nat×aB)} (hh:(tr ops.size).hist=(t,g)::r) :
  Fit c ⟨(tr ops.size).tm,dL base (tr ops.size).pend g⟩ a∧aZ c0 (bump s0.h ops.size) c (dL base (tr ops.size).pend g)∧(∀ j,j<base->c.φ j=c0.φ j)∧a.defers=df:=by
 have H:=lO Z ops.size (kP _);have hg:=H.val t g (by rw[hh];simp)
 have hkt:k=t:=by
  have l1:t<=k:=by
   rcases hg.2 with h|⟨h1,h2⟩
   ·omega
   ·have:=I.most (t-1) h1 (hall _ (by
     obtain⟨o,ho,_⟩:=h1
     exact(Array.getElem?_eq_some_iff.1 ho).1))
    omega
  have l2:k<=t:=by
   rcases I.top with h|⟨w,h1,h2,h3⟩
   ·omega
   ·have hm:=H.all w (by
     obtain⟨o,ho,_⟩:=h2
     exact(Array.getElem?_eq_some_iff.1 ho).1) h2
    rw[hh] at hm;rcases List.mem_cons.1 hm with hm|hm
    ·simp only[kB] at hm;omega
    ·have hsd:=H.sorted;rw[hh,List.pairwise_cons] at hsd;have:=hsd.1 _ hm
     simp only at this;omega
  omega
 subst hkt;rw[hg.1];have e0:aR c (λ_=>False)=c:=ou λ_ h=>h
 have hnext:=I.next hb
 have hfr:∀ id,(HP tr k).next<=id->(aR c λ_=>False).φ id=none:=λid hid=>by
  rw[e0];have:=I.rel.fresh id hid
  simp only[aR] at this;by_cases hX:exA ops tr base S id
  ·obtain⟨i,rfl,hi⟩:=hX;have:=I.range i hi.2.1
   omega
  ·simpa only[hX,if_false] using this
 obtain⟨R,O⟩:=I.adds (X:=λ_=>False) (λ_ h=>h.elim) hfr (lz Z ops.size (kP _)) λp hp=>by
  obtain⟨a1,a2,a3,a4⟩:=(mv Z ops.size (kP _) p.1 p.2).1 hp;exact⟨⟨a1,hall _ a2,λw hW hSw=>a4 w (I.range w hSw) hW⟩,a3,λh=>h⟩
 rw[e0] at R O
 have K0:∀ {X:Nat->Prop},am (aR c X) c:=λ{X}=>by
  have:=eQ (c:=c) (X:=X) (Y:=λ_=>False) (λ_ h=>h.elim)
  rwa [e0] at this
 refine⟨⟨R,?_⟩,?_,I.low,I.dfs⟩
 ·have hl:=tc Z ops.size (kP _);refine VS.of_get (by rw[hl,<-I.size];simp) λt d y hd hy=>?_
  rw[Array.getElem?_toList] at hy;have htl:=(List.getElem?_eq_some_iff.1 hd).1;obtain⟨g1,g2⟩:=yF Z ops.size (kP _) t (by rw[<-hl];exact htl);rcases I.tm t y hy with⟨i,oi,h1,h2,h3,h4⟩|⟨h1,d',h2,h3⟩
  ·have:=g1 i oi (I.range i h1) h2 h3
   rw[hd] at this;injection this with this
   rw[this];exact V.keep K0 _ _ h4
  ·have:=g2 λi oi hi ho=>h1 i oi (hall i hi) ho
   rw[hd,h2] at this;injection this with this
   rw[this];exact V.keep K0 _ _ h3
 ·have G:=I.grow;refine⟨G.keeps.trans K0,G.os,G.tape,G.output,G.size,G.next,G.frame,λb ho=>?_,G.stable⟩;rcases O b ho with h|⟨p,hp,hpb⟩
  ·exact G.own b h
  ·obtain⟨a1,a2,a3,a4⟩:=(mv Z ops.size (kP _) p.1 p.2).1 hp;obtain⟨b',x1,x2,_⟩:=I.pn p.1 ⟨a1,hall _ a2,λw hW hSw=>a4 w (I.range w hSw) hW⟩;rw[x1] at hpb;injection hpb with hpb;injection hpb with e1 _;subst e1
   exact .inl x2
theorem bZ {ops:Array Oper}{listed:Array Bool}{i:Nat}:i∈Region.ready .any ops listed↔∃ o,ops[i]?=some o∧listed.getD i true=false∧∀ e∈o.after,Region.binds .any e=true->listed.getD e.on false=true:=by
 unfold Region.ready;rw[List.mem_filter,List.mem_range];constructor
 ·rintro⟨h1,h2⟩;refine⟨ops[i],by simp[h1],?_⟩;simp only[Array.getElem?_eq_getElem h1,kF,Option.getD_some,kC,Bool.not_eq_true',Array.all_eq_true_iff_forall_mem,kN] at h2;refine⟨h2.1,λe he hb=>?_⟩;rcases h2.2 e he with h|h
  ·rw[hb] at h;cases h
  ·exact h
 ·rintro⟨o,ho,h1,h2⟩;refine⟨(Array.getElem?_eq_some_iff.1 ho).1,?_⟩;simp only[ho,kF,Option.getD_some,kC,Bool.not_eq_true',Array.all_eq_true_iff_forall_mem,kN];refine⟨h1,λe he=>?_⟩;cases hb:Region.binds .any e with
  | false=>exact .inl rfl
  | true=>exact .inr (h2 e he hb)
theorem xL (T:TOk P ti) (C:gm P cl) (E:∀ a b,eq a b=true->a=b) (Z:fF P ti cl eq ops base s0 tr val box) (hb:base=s0.h.next){Q:Exit->Act->World->Prop}
  (hQ:∀ {S:Nat->Prop} {k a c},(∀ i,i<ops.size->S i)->Inv ops base s0 tr val box c0 df S k a c->Q .normal a c.w):∀ (fuel:Nat) (listed:Array Bool) (S:Nat->Prop) (k:Nat) (a:Act) (c:Ctx),
  listed.size=ops.size->listed.toList.count false<=fuel->(∀ i,S i↔listed.getD i false=true)->Inv ops base s0 tr val box c0 df S k a c->wpAnyIn (WF ro) n P .any ops Q fuel listed a c.w:=by
 have done:∀ (listed:Array Bool) (S:Nat->Prop) (k:Nat) (a:Act) (c:Ctx),listed.size=ops.size->(∀ i,S i↔listed.getD i false=true)->Inv ops base s0 tr val box c0 df S k a c->Region.ready .any ops listed=[]->Q .normal a c.w:=λlisted S k a c hsz hS I hr=>by
  refine hQ (λi hi=>?_) I
  induction i using Nat.strongRecOn with
  | _ i ih=>
   rw[hS];cases hx:listed.getD i false with
   | true=>rfl
   | false=>
    exfalso
    have hm:i∈Region.ready .any ops listed:=by
     rw[bZ];refine⟨ops[i],by simp[hi],?_,λe he hbb=>?_⟩
     ·simp only[Array.getD,hsz,hi] at hx ⊢;simpa using hx
     ·have hlt:=m6 Z.ok (by simp[hi]:ops[i]?=some ops[i]) he hbb;exact(hS _).1 (ih e.on hlt om)
    rw[hr] at hm;cases hm
 intro fuel
 induction fuel with
 | zero=>
  intro listed S k a c hsz hcnt hS I
  have hr:Region.ready .any ops listed=[]:=by
   rw[List.eq_nil_iff_forall_not_mem];intro i hi;obtain⟨o,ho,h1,_⟩:=bZ.1 hi;have hlt:i<listed.size:=by rw[hsz];exact(Array.getElem?_eq_some_iff.1 ho).1
   have:listed.toList.count false=0:=by omega
   rw[List.count_eq_zero] at this;apply this;simp only[Array.getD,hlt,dite_true] at h1;rw[<-h1];exact Array.getElem_mem_toList _
  exact⟨hr,done listed S k a c hsz hS I hr⟩
 | succ fuel ih=>
  intro listed S k a c hsz hcnt hS I;refine⟨done listed S k a c hsz hS I,λi hi=>?_⟩;obtain⟨o,ho,h1,h2⟩:=bZ.1 hi;have hlt:i<listed.size:=by rw[hsz];exact(Array.getElem?_eq_some_iff.1 ho).1
  have hli:listed[i]=false:=by rwa [Array.getD_eq_getD_getElem?,Array.getElem?_eq_getElem hlt,Option.getD_some] at h1
  have hnS:¬S i:=λh=>by
   have:=(hS i).1 h
   simp only[Array.getD,hlt,dite_true] at this;have h3:listed[i]=true:=this;rw[hli] at h3;cases h3
  refine EA T C E Z hb I ho hnS (λo' e ho' he hbb=>?_) λk' a' c' I'=>?_
  ·rw[ho] at ho';injection ho' with ho';subst ho'
   exact(hS _).2 (h2 e he hbb)
  ·refine ih _ (ct S i) k' a' c' (by simpa using hsz) ?_ (λq=>?_) I'
   ·have hl:i<listed.toList.length:=by simpa using hlt
    rw[Array.toList_setIfInBounds];unfold List.count at hcnt ⊢;rw[List.countP_set hl]
    have:listed.toList[i]=false:=by simpa using hli
    rw[this,if_pos (show(false == false)=true from rfl),if_neg (show ¬(true == false)=true by decide)];omega
   ·simp only[ct,hS,Array.getD,Array.size_setIfInBounds];by_cases hq:q=i
    ·subst hq;simp[hlt]
    ·have hqi:¬i=q:=λe=>hq e.symm
     by_cases hql:q<listed.size
     ·simp only[hql,dite_true,hq,or_false];show listed[q]=true↔(listed.setIfInBounds i true)[q]'(by simpa using hql)=true;rw[Array.getElem_setIfInBounds_ne om hqi]
     ·simp[hql,hq]
end
section
variable {P:Program}{ti:TI}{cl:Cl}{eq:D->D->Bool}{c:Ctx}{ro:Option Nat}{n:Nat}
theorem fO (hm:P.follows .mixedOrders=true) (T:TOk P ti) (C:gm P cl) (E:∀ a b,eq a b=true->a=b){ops:Array Oper}(hok:b6 ops=true){s s':St}{a:Act}{Q:Exit->Act->World->Prop}{id:Nat}
  (hr:bp P ti cl eq ops s=some s') (hfit:Fit c s a)
  (hQ:∀ c' a',Fit c' s' a'->aZ c s.h c' s'.h->(∀ j,j<s.h.next->c'.φ j=c.φ j)->a'.defers=a.defers->Q .normal a' c'.w):(Code.region id ops true).wpIn (WF ro) n P Q a c.w:=by
 unfold bp at hr;split at hr
 ·rename_i ds hds;split at hr
  ·rename_i t g r hh;simp only[kA] at hr;subst hr;obtain⟨tr,val,box,e1,e2,e3⟩:=mK _ _ _ _ hds
   have Z:fF P ti cl eq ops s.h.next s tr val box:=⟨hok,e1,λj o ho=>by
    have:=e3 j o (by simpa using ho)
    simpa using this⟩
   have e2':tr ops.size=ds:=by simpa using e2
   refine wpIn_region_any hm ?_;have hfit':Fit (c.draw (c.w.drawn+1)) s a:=⟨(hfit.rel.draw _).1,VS.keep (c.draw_keeps _) _ _ hfit.tmps⟩
   have:=xL (ro:=ro) (n:=n) (Q:=Q) T C E Z rfl (c0:=c.draw (c.w.drawn+1)) (df:=a.defers) (λ{S k a' c'} hall I=>by
    obtain⟨f1,f2,f3,f4⟩:=sk Z rfl hall I (by rw[e2'];exact hh);rw[e2'] at f1 f2
    exact hQ c' a' f1 ((hfit.rel.draw _).2.trans f2.bump) f3 f4) ops.size (Array.replicate ops.size false) (λ_=>False) 0 a _ si si (λi=>by simp[Array.getD]) (wp Z rfl hfit')
   exact this
  ·simp at hr
 ·simp at hr
end
end Go.Am
/-
 The abstract machine: a region that draws its order,split by the order of two of its operations.
-/
namespace Go.Am
variable [GT]
section
variable {F:Fence}{n:Nat}{P:Program}{Q:Exit->Act->World->Prop}
def ja:Result Next->Prop
 | .ok (.enter _ _) _=>False
 | .ok (.row _ _) _=>False
 | .ok (.round _ _ _ _ _) _=>False
 | _=>True
theorem Co {o:Oper}{a:Act}{K1 K2:Act->World->Prop}{r:Result Next}(hn:ja r) (h1:o.uponIn F n P a K1 Q r) (h2:o.uponIn F n P a K2 Q r):o.uponIn F n P a (λa w=>K1 a w∧K2 a w) Q r:=by
 cases r with
 | ok x w=>
  cases x<;>simp only[Oper.uponIn,ja] at hn h1 h2 ⊢<;>first|exact⟨h1,h2⟩|exact hn.elim|exact h1
 | halt x w=>cases x<;>simp only[Oper.uponIn] at h1 ⊢<;>exact h1
structure pF (p:Nat->Nat) (ops ops':Array Oper):Prop where
 inj:∀ i j,i<ops.size->j<ops.size->p i=p j->i=j
 size:ops'.size=ops.size
 rng:∀ i,i<ops.size->p i<ops.size
 at_:∀ (i:Nat) (o:Oper),ops[i]?=some o->∃ A,ops'[p i]?=some { o with after:=A,guard:=o.guard.map λg=>(p g.1,g.2) }∧∀ e∈o.after,Region.binds .any e=true->∃ e' ∈ A,Region.binds .any e'=true∧e'.on=p e.on
 sur:∀ k,k<ops.size->∃ i,i<ops.size∧p i=k
 gd:∀ (i:Nat) (o:Oper),ops[i]?=some o->∀ g:Nat×Bool,o.guard=some g->g.1<ops.size
theorem pF.op {p:Nat->Nat}{ops ops':Array Oper}(R:pF p ops ops'){i:Nat}(hi:i<ops.size){K:Act->World->Prop}{a:Act}{w:World}(h:wpOpIn F n P ops' Q (p i) K a w):wpOpIn F n P ops Q i K a w:=by
 have ho:ops[i]?=some ops[i]:=by simp[hi]
 obtain⟨A,h1,_⟩:=R.at_ i _ ho
 have hy:Region.wanted { ops[i] with after:=A,guard:=ops[i].guard.map λg=>(p g.1,g.2) } (yielded ops' a.tmps)=Region.wanted ops[i] (yielded ops a.tmps):=by
  unfold Region.wanted;cases hg:ops[i].guard with
  | none=>rfl
  | some g=>
   have hgs:=R.gd i _ ho g hg;obtain⟨B,h2,_⟩:=R.at_ g.1 _ (by simp[hgs]:ops[g.1]?=some ops[g.1])
   have:yielded ops' a.tmps (p g.1)=yielded ops a.tmps g.1:=by
    unfold yielded;rw[h2];simp[hgs]
   simp only[kF,this]
 unfold wpOpIn at h ⊢;rw[h1] at h;rw[ho];simp only[hy] at h ⊢;exact h
structure Lk (p:Nat->Nat) (m:Nat) (listed l:Array Bool):Prop where
 s1:listed.size=m
 s2:l.size=m
 eq:∀ i,i<m->l.getD (p i) false=listed.getD i false
theorem nL {l:Array Bool}{i:Nat}(h:i<l.size) (b c:Bool):l.getD i b=l.getD i c:=by simp[Array.getD,h]
theorem nK {l:Array Bool}{i:Nat}(h:i<l.size) (k:Nat):(l.setIfInBounds i true).getD k false=(decide (k=i) || l.getD k false):=by
 by_cases hk:k=i
 ·subst hk;simp[Array.getD,h]
 ·have hki:¬i=k:=λe=>hk e.symm
  by_cases hkl:k<l.size
  ·simp[Array.getD,hkl,hk,Array.getElem_setIfInBounds_ne,hki]
  ·simp[Array.getD,hkl,hk]
theorem Lk.put {p:Nat->Nat}{ops ops':Array Oper}(R:pF p ops ops'){listed l:Array Bool}(h:Lk p ops.size listed l){i:Nat}(hi:i<ops.size):Lk p ops.size (listed.setIfInBounds i true) (l.setIfInBounds (p i) true):=by
 refine⟨by simpa using h.s1,by simpa using h.s2,λk hk=>?_⟩;rw[nK (by rw[h.s2];exact R.rng i hi),nK (by rw[h.s1];exact hi),h.eq k hk];congr 1;by_cases e:k=i
 ·simp[e]
 ·have:¬p k=p i:=λe'=>e (R.inj k i hk hi e')
  simp[e,this]
def Ar (p:Nat->Nat) (ops ops':Array Oper) (x y:Nat):Prop:=
 ∀ i o o' e',ops[i]?=some o->ops'[p i]?=some o'->e' ∈ o'.after->Region.binds .any e'=true->(∃ e∈o.after,Region.binds .any e=true∧e'.on=p e.on∧e.on<ops.size)∨(i=y∧e'.on=p x)
theorem ia {p:Nat->Nat}{ops ops':Array Oper}{x y:Nat}(R:pF p ops ops') (A:Ar p ops ops' x y) (hx:x<ops.size){listed l:Array Bool}(h:Lk p ops.size listed l){i:Nat}(hi:i∈Region.ready .any ops listed) (hy:i=y->listed.getD x false=true):p i∈Region.ready .any ops' l:=by
 obtain⟨o,h1,h2,h3⟩:=bZ.1 hi;have hlt:i<ops.size:=(Array.getElem?_eq_some_iff.1 h1).1;obtain⟨B,k1,k2⟩:=R.at_ i o h1;refine bZ.2 ⟨_,k1,?_,λe' he' hb'=>?_⟩
 ·rw[nL (by rw[h.s2];exact R.rng i hlt) true false,h.eq i hlt,nL (by rw[h.s1];exact hlt) false true];exact h2
 ·rcases A i o _ e' h1 k1 he' hb' with⟨e,q1,q2,q3,q4⟩|⟨q1,q2⟩
  ·rw[q3,h.eq _ q4];exact h3 e q1 q2
  ·rw[q2,h.eq _ hx];exact hy q1
theorem vu {p:Nat->Nat}{ops ops':Array Oper}(R:pF p ops ops') (hE:∀ (i:Nat) (o:Oper) (e:Edge),ops[i]?=some o->e∈o.after->Region.binds .any e=true->e.on<ops.size){listed l:Array Bool}(h:Lk p ops.size listed l){k:Nat}(hk:k∈Region.ready .any ops' l):∃ i,i∈Region.ready .any ops listed:=by
 obtain⟨o',h1,h2,h3⟩:=bZ.1 hk;have hlt:k<ops.size:=by rw[<-R.size];exact(Array.getElem?_eq_some_iff.1 h1).1
 obtain⟨i,hi,rfl⟩:=R.sur k hlt;have ho:ops[i]?=some ops[i]:=by simp[hi]
 obtain⟨B,k1,k2⟩:=R.at_ i _ ho;rw[k1] at h1;injection h1 with h1;subst h1
 refine⟨i,bZ.2 ⟨_,ho,?_,λe he hb=>?_⟩⟩
 ·rw[nL (by rw[h.s1];exact hi) true false,<-h.eq i hi,nL (by rw[h.s2];exact R.rng i hi) false true];exact h2
 ·obtain⟨e',q1,q2,q3⟩:=k2 e he hb;rw[<-h.eq _ (hE i _ e ho he hb),<-q3];exact h3 e' q1 q2
theorem yB {ops:Array Oper}{i:Nat}(hnc:∀ o,ops[i]?=some o->∀ ρ w,ja ((o.semAt F.round ρ).run P w)){K1 K2:Act->World->Prop}{a:Act}{w:World}(h1:wpOpIn F n P ops Q i K1 a w) (h2:wpOpIn F n P ops Q i K2 a w):wpOpIn F n P ops Q i (λa w=>K1 a w∧K2 a w) a w:=by
 unfold wpOpIn at *;cases ho:ops[i]? with
 | none=>simp only[ho] at h1 h2;exact⟨h1,h2⟩
 | some o=>
  simp only[ho] at h1 h2 ⊢;split at h1
  ·rename_i hw;simp only[hw,if_true] at h2 ⊢;exact⟨h1.1,Co (hnc o ho _ _) h1.2 h2.2⟩
  ·rename_i hw;simp only[hw] at h2 ⊢;exact⟨h1.1,h1.2,h2.2⟩
theorem A6 {p1 p2:Nat->Nat}{ops ops1 ops2:Array Oper}{x y:Nat}(R1:pF p1 ops ops1) (R2:pF p2 ops ops2) (A1:Ar p1 ops ops1 x y) (A2:Ar p2 ops ops2 y x) (hx:x<ops.size) (hy:y<ops.size) (hxy:x≠y)
  (hE:∀ (i:Nat) (o:Oper) (e:Edge),ops[i]?=some o->e∈o.after->Region.binds .any e=true->e.on<ops.size) (hnc:∀ (i:Nat) (o:Oper),ops[i]?=some o->∀ ρ w,ja ((o.semAt F.round ρ).run P w)) :
  ∀ (fuel:Nat) (listed l1 l2:Array Bool) (a:Act) (w:World),Lk p1 ops.size listed l1->Lk p2 ops.size listed l2 ->
   (wpAnyIn F n P .any ops1 Q fuel l1 a w∧wpAnyIn F n P .any ops2 Q fuel l2 a w)∨(listed.getD x false=true∧wpAnyIn F n P .any ops1 Q fuel l1 a w)∨(listed.getD y false=true∧wpAnyIn F n P .any ops2 Q fuel l2 a w)->wpAnyIn F n P .any ops Q fuel listed a w:=by
 have nil1:∀ {listed l:Array Bool},Lk p1 ops.size listed l->Region.ready .any ops listed=[]->Region.ready .any ops1 l=[]:=λhL hr=>by
  rw[List.eq_nil_iff_forall_not_mem];intro k hk;obtain⟨i,hi⟩:=vu R1 hE hL hk;rw[hr] at hi;cases hi
 have nil2:∀ {listed l:Array Bool},Lk p2 ops.size listed l->Region.ready .any ops listed=[]->Region.ready .any ops2 l=[]:=λhL hr=>by
  rw[List.eq_nil_iff_forall_not_mem];intro k hk;obtain⟨i,hi⟩:=vu R2 hE hL hk;rw[hr] at hi;cases hi
 intro fuel
 induction fuel with
 | zero=>
  intro listed l1 l2 a w L1 L2 h;refine⟨?_,?_⟩
  ·rw[List.eq_nil_iff_forall_not_mem];intro i hi;rcases h with⟨h1,h2⟩|⟨hl,h1⟩|⟨hl,h2⟩
   ·by_cases e:i=y
    ·have:=ia R2 A2 hy L2 hi (λe'=>absurd (e'.symm.trans e) hxy)
     rw[h2.1] at this;cases this
    ·have:=ia R1 A1 hx L1 hi (λe'=>absurd e' e)
     rw[h1.1] at this;cases this
   ·have:=ia R1 A1 hx L1 hi (λ_=>hl)
    rw[h1.1] at this;cases this
   ·have:=ia R2 A2 hy L2 hi (λ_=>hl)
    rw[h2.1] at this;cases this
  ·rcases h with⟨h1,_⟩|⟨_,h1⟩|⟨_,h2⟩
   ·exact h1.2
   ·exact h1.2
   ·exact h2.2
 | succ fuel ih=>
  intro listed l1 l2 a w L1 L2 h;refine⟨λhr=>?_,λi hi=>?_⟩
  ·rcases h with⟨h1,_⟩|⟨_,h1⟩|⟨_,h2⟩
   ·exact h1.1 (nil1 L1 hr)
   ·exact h1.1 (nil1 L1 hr)
   ·exact h2.1 (nil2 L2 hr)
  ·obtain⟨o,h1,_,_⟩:=bZ.1 hi;have hlt:i<ops.size:=(Array.getElem?_eq_some_iff.1 h1).1;have keep:∀ {z:Nat},listed.getD z false=true->(listed.setIfInBounds i true).getD z false=true:=λ{z} hz=>by rw[nK (by rw[L1.s1];exact hlt),hz,Bool.or_true]
   have self:∀ {z:Nat},i=z->(listed.setIfInBounds i true).getD z false=true:=λ{z} hz=>by rw[nK (by rw[L1.s1];exact hlt)];simp[hz]
   have go1:wpAnyIn F n P .any ops1 Q (fuel+1) l1 a w->(i=y->listed.getD x false=true)->wpOpIn F n P ops Q i (wpAnyIn F n P .any ops1 Q fuel (l1.setIfInBounds (p1 i) true)) a w:=λhw hc=>R1.op hlt (hw.2 _ (ia R1 A1 hx L1 hi hc))
   have go2:wpAnyIn F n P .any ops2 Q (fuel+1) l2 a w->(i=x->listed.getD y false=true)->wpOpIn F n P ops Q i (wpAnyIn F n P .any ops2 Q fuel (l2.setIfInBounds (p2 i) true)) a w:=λhw hc=>R2.op hlt (hw.2 _ (ia R2 A2 hy L2 hi hc))
   have st:=λa w=>ih (listed.setIfInBounds i true) (l1.setIfInBounds (p1 i) true) (l2.setIfInBounds (p2 i) true) a w (L1.put R1 hlt) (L2.put R2 hlt)
   rcases h with⟨h1,h2⟩|⟨hl,h1⟩|⟨hl,h2⟩
   ·by_cases ey:i=y
    ·exact wpOpIn_mono (λa w hw=>st a w (.inr (.inr ⟨self ey,hw⟩))) (go2 h2 (λe=>absurd (e.symm.trans ey) hxy))
    ·by_cases ex:i=x
     ·exact wpOpIn_mono (λa w hw=>st a w (.inr (.inl ⟨self ex,hw⟩))) (go1 h1 (λe=>absurd e ey))
     ·exact wpOpIn_mono (λa w hw=>st a w (.inl hw)) (yB (λo ho=>hnc i o ho) (go1 h1 (λe=>absurd e ey)) (go2 h2 (λe=>absurd e ex)))
   ·exact wpOpIn_mono (λa w hw=>st a w (.inr (.inl ⟨keep hl,hw⟩))) (go1 h1 (λ_=>hl))
   ·exact wpOpIn_mono (λa w hw=>st a w (.inr (.inr ⟨keep hl,hw⟩))) (go2 h2 (λ_=>hl))
theorem nc_v (s:Sem Value) (w:World):ja ((do pure (.value (<-s)):Sem Next).run P w):=by
 rw[Sem.run_bind];cases s.run P w<;>trivial
theorem nc_u (s:Sem Unit) (w:World):ja ((do s;pure .skip:Sem Next).run P w):=by
 rw[Sem.run_bind];cases s.run P w<;>trivial
theorem uL {α:Type}(s:Sem α) (f:α->Sem Next) (w:World) (h:∀ x w',ja ((f x).run P w')):ja ((s >>= f).run P w):=by
 rw[Sem.run_bind];cases s.run P w with
 | ok x w'=>exact h x w'
 | halt x w'=>trivial
def mr:Op->Bool
 | .move _|.assign _|.alloc _|.box ..|.buildSlice ..|.build ..|.load ..|.store ..|.fieldAddr ..|.indexAddr ..|.nilCheck _=>true
 | .call c=>match c.callee with|.builtin .append=>true|.builtin .len=>true|_=>false
 | _=>false
theorem DG {o:Oper}(h:mr o.op=true) (ro:Option Nat) (ρ:Operand->Value) (w:World):ja ((o.semAt ro ρ).run P w):=by
 rw[Oper.semAt_eq _ _ _ (λc e=>by rw[e] at h;cases h)];unfold execOp;cases ho:o.op<;>rw[ho] at h<;>first|exact absurd h Bool.false_ne_true|exact nc_v _ _|exact nc_u _ _|exact kQ|skip
 all_goals dsimp only
 ·split<;>first|exact kQ|skip
  split<;>first|exact kQ|skip
  refine uL _ _ _ λp w'=>uL _ _ _ λb w''=>?_
  split
  ·exact uL _ _ _ λ_ _=>kQ
  ·exact kQ
 ·rename_i c;simp only[mr] at h;split at h<;>first|(rename_i hc;rw[Sem.run_bind];simp only[resolve,hc];exact nc_v _ _)|cases h
end
section
variable {P:Program}{ti:TI}{cl:Cl}{eq:D->D->Bool}{c:Ctx}{ro:Option Nat}{n:Nat}
theorem kr (T:TOk P ti) (C:gm P cl) (E:∀ a b,eq a b=true->a=b){ops:Array Oper}(hok:b6 ops=true){s s':St}{a:Act}{Q:Exit->Act->World->Prop}
  (hr:bp P ti cl eq ops s=some s') (hfit:Fit c s a)
  (hQ:∀ c' a',Fit c' s' a'->aZ c s.h c' s'.h->(∀ j,j<s.h.next->c'.φ j=c.φ j)->a'.defers=a.defers->Q .normal a' c'.w):wpAnyIn (WF ro) n P .any ops Q ops.size (Array.replicate ops.size false) a { c.w with drawn:=c.w.drawn+1 }:=by
 unfold bp at hr;split at hr
 ·rename_i ds hds;split at hr
  ·rename_i t g r hh;simp only[kA] at hr;subst hr;obtain⟨tr,val,box,e1,e2,e3⟩:=mK _ _ _ _ hds
   have Z:fF P ti cl eq ops s.h.next s tr val box:=⟨hok,e1,λj o ho=>by
    have:=e3 j o (by simpa using ho)
    simpa using this⟩
   have e2':tr ops.size=ds:=by simpa using e2
   have hfit':Fit (c.draw (c.w.drawn+1)) s a:=⟨(hfit.rel.draw _).1,VS.keep (c.draw_keeps _) _ _ hfit.tmps⟩
   have:=xL (ro:=ro) (n:=n) (Q:=Q) T C E Z rfl (c0:=c.draw (c.w.drawn+1)) (df:=a.defers) (λ{S k a' c'} hall I=>by
    obtain⟨f1,f2,f3,f4⟩:=sk Z rfl hall I (by rw[e2'];exact hh);rw[e2'] at f1 f2
    exact hQ c' a' f1 ((hfit.rel.draw _).2.trans f2.bump) f3 f4) ops.size (Array.replicate ops.size false) (λ_=>False) 0 a _ si si (λi=>by simp[Array.getD]) (wp Z rfl hfit')
   exact this
  ·simp at hr
 ·simp at hr
end
def newE (p:Nat->Nat) (e:Edge):Edge:={ e with on:=p e.on }
def newO (p:Nat->Nat) (x y i:Nat) (o:Oper):Oper:=
 { o with after:=o.after.map (newE p)++(if i=y then #[⟨p x,.chain⟩] else #[]),guard:=o.guard.map λg=>(p g.1,g.2) }
def mD (p q:Nat->Nat) (x y:Nat) (ops:Array Oper):Array Oper:=
 ((List.range ops.size).map λk=>newO p x y (q k) (ops.getD (q k) default)).toArray
def uJ (p q:Nat->Nat) (ops:Array Oper):Bool:=
 (List.range ops.size).all λi=>Nat.ble (p i+1) ops.size&&Nat.ble (q i+1) ops.size&&Nat.beq (q (p i)) i&&Nat.beq (p (q i)) i &&
  (match ops[i]? with
  | none=>true
  | some o=>o.after.toList.all (λe=>Nat.ble (e.on+1) ops.size)&&(match o.guard with|some g=>Nat.ble (g.1+1) ops.size|none=>true)&&mr o.op)
theorem dG {p q:Nat->Nat}{ops:Array Oper}(h:uJ p q ops=true){i:Nat}(hi:i<ops.size):p i<ops.size∧q i<ops.size∧q (p i)=i∧p (q i)=i∧(∀ e∈ops[i].after,e.on<ops.size)∧(∀ g,ops[i].guard=some g->g.1<ops.size)∧mr ops[i].op=true:=by
 unfold uJ at h;rw[kL] at h;have:=h i (List.mem_range.2 hi)
 simp only[kC,Nat.ble_eq,Nat.beq_eq,Array.getElem?_eq_getElem hi,kL,Array.mem_toList_iff] at this;obtain⟨⟨⟨⟨h1,h2⟩,h3⟩,h4⟩,⟨h5,h6⟩,h7⟩:=this;refine⟨h1,h2,h3,h4,h5,λg hg=>?_,h7⟩;rw[hg] at h6;exact kD h6
theorem wS {p q:Nat->Nat}{ops:Array Oper}(h:uJ p q ops=true){x y i:Nat}(hi:i<ops.size):(mD p q x y ops)[p i]?=some (newO p x y i ops[i]):=by
 obtain⟨h1,h2,h3,_⟩:=dG h hi;unfold mD;simp[h1,h3,hi]
theorem qv {p q:Nat->Nat}{ops:Array Oper}(h:uJ p q ops=true) (x y:Nat):pF p ops (mD p q x y ops):=by
 refine⟨λi j hi hj e=>?_,by simp[mD],λi hi=>(dG h hi).1,λi o ho=>?_,λk hk=>⟨q k,(dG h hk).2.1,(dG h hk).2.2.2.1⟩,λi o ho g hg=>?_⟩
 ·rw[<-(dG h hi).2.2.1,e,(dG h hj).2.2.1]
 ·obtain⟨hi,rfl⟩:=Array.getElem?_eq_some_iff.1 ho;refine⟨_,wS h hi,λe he hb=>⟨newE p e,?_,hb,rfl⟩⟩;simp only[Array.mem_append,Array.mem_map];exact .inl ⟨e,he,rfl⟩
 ·obtain⟨hi,rfl⟩:=Array.getElem?_eq_some_iff.1 ho;exact(dG h hi).2.2.2.2.2.1 g hg
theorem qw {p q:Nat->Nat}{ops:Array Oper}(h:uJ p q ops=true) (x y:Nat):Ar p ops (mD p q x y ops) x y:=by
 intro i o o' e' ho ho' he' hb;obtain⟨hi,rfl⟩:=Array.getElem?_eq_some_iff.1 ho;rw[wS h hi] at ho';injection ho' with ho';subst ho'
 simp only[newO,Array.mem_append,Array.mem_map] at he';rcases he' with⟨e,h1,rfl⟩|h2
 ·exact .inl ⟨e,h1,hb,rfl,(dG h hi).2.2.2.2.1 e h1⟩
 ·split at h2
  ·rename_i hy;simp at h2;subst h2;exact .inr ⟨hy,rfl⟩
  ·simp at h2
section
variable {P:Program}{ti:TI}{cl cl2:Cl}{eq:D->D->Bool}{c:Ctx}{ro:Option Nat}{n:Nat}
theorem EV (hm:P.follows .mixedOrders=true) (T:TOk P ti) (C:gm P cl) (C2:gm P cl2) (E:∀ a b,eq a b=true->a=b){ops:Array Oper}{p q:Nat->Nat}{x y:Nat}(hx:x<ops.size) (hy:y<ops.size) (hxy:x≠y) (b1:uJ id id ops=true) (b2:uJ p q ops=true)
  (o1:b6 (mD id id x y ops)=true) (o2:b6 (mD p q y x ops)=true) {s s1 s2:St} {a:Act} {Q:Exit->Act->World->Prop} {id':Nat}
  (r1:bp P ti cl eq (mD id id x y ops) s=some s1) (r2:bp P ti cl2 eq (mD p q y x ops) s=some s2) (hfit:Fit c s a)
  (hQ1:∀ c' a',Fit c' s1 a'->aZ c s.h c' s1.h->(∀ j,j<s.h.next->c'.φ j=c.φ j)->a'.defers=a.defers->Q .normal a' c'.w)
  (hQ2:∀ c' a',Fit c' s2 a'->aZ c s.h c' s2.h->(∀ j,j<s.h.next->c'.φ j=c.φ j)->a'.defers=a.defers->Q .normal a' c'.w):(Code.region id' ops true).wpIn (WF ro) n P Q a c.w:=by
 have k1:=kr (ro:=ro) (n:=n) T C E o1 r1 hfit hQ1;have k2:=kr (ro:=ro) (n:=n) T C2 E o2 r2 hfit hQ2;have z1:(mD id id x y ops).size=ops.size:=by simp[mD]
 have z2:(mD p q y x ops).size=ops.size:=by simp[mD]
 rw[z1] at k1;rw[z2] at k2;refine wpIn_region_any hm (A6 (qv b1 x y) (qv b2 y x) (qw b1 x y) (qw b2 y x) hx hy hxy (λi o e ho he _=>?_) (λi o ho ρ w=>?_) _ _ _ _ _ _ ?_ ?_ (.inl ⟨k1,k2⟩))
 ·obtain⟨hi,rfl⟩:=Array.getElem?_eq_some_iff.1 ho;exact(dG b1 hi).2.2.2.2.1 e he
 ·obtain⟨hi,rfl⟩:=Array.getElem?_eq_some_iff.1 ho;exact DG (dG b1 hi).2.2.2.2.2.2 _ _ _
 ·exact⟨by simp,by simp,λi hi=>by simp[Array.getD]⟩
 ·exact⟨by simp,by simp,λi hi=>by simp[Array.getD]⟩
end
def upP (x y i:Nat):Nat:=if Nat.beq i x then y else if Nat.blt x i&&Nat.ble i y then i-1 else i
def upQ (x y k:Nat):Nat:=if Nat.beq k y then x else if Nat.ble x k&&Nat.blt k y then k+1 else k
def HX (ops:Array Oper) (j:Nat):Bool:=opB ops (λo=>(match bL ops o with|.write=>true|_=>false)&&o.guard.isNone) j
def FW (ops:Array Oper):Option (Nat×Nat):=
 if(List.range ops.size).all (λj=>opB ops (λo=>mr o.op) j) then
  (List.range ops.size).findSome? λy=>(List.range y).findSome? λx=>if HX ops x&&HX ops y&&!anc (eE ops.toList []) y x then some (x,y) else none
 else none
end Go.Am
