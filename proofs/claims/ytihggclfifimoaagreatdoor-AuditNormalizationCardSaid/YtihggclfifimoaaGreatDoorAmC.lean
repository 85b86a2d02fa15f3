/-
  The abstract machine: what Go code does to abstract values, and that it does so in the model. No condition beyond what each theorem says.
-/
import Derived.Test.YtihggclfifimoaaGreatDoorAmB
import Derived.LoopNIn
import Derived.RangeFuncRecord
import Derived.RecoverIn
set_option linter.unusedSectionVars false
/-
 The abstract machine,part 21: code,step by step ('Ex');a function's contract out of its body.
-/
namespace Go.Am
variable [GT]
def Le (s s0:St):Prop:=∀ c a,Fit c s a->∃ c0,c0.w=c.w∧Fit c0 s0 a∧aZ c s.h c0 s0.h∧∀ j,j<s.h.next->c0.φ j=c.φ j
theorem Le.refl (s:St):Le s s:=λc _ h=>⟨c,rfl,h,aZ.refl _ _,λ_ _=>rfl⟩
theorem Le.trans {s t u:St}(h:Le s t) (k:Le t u):Le s u:=λc a hf=>by
 obtain⟨c1,e1,f1,g1,p1⟩:=h c a hf;obtain⟨c2,e2,f2,g2,p2⟩:=k c1 a f1;refine⟨c2,e2.trans e1,f2,g1.trans g2,λj hj=>?_⟩;have:=g1.next
 rw[p2 j om,p1 j hj]
inductive Job where
 | code (c:Code)
 | rounds (m:Nat) (c:Code)
def mO (id:Nat):Exit->Exit
 | .exit i=>if i=id then .normal else .exit i
 | e=>e
inductive DE where
 | call (g:FuncId) (ds:List D)
 | mark (id:Nat)
 deriving Inhabited
def DR (c:Ctx):DE->Deferred->Prop
 | .call g ds,d=>∃ args cap:List Value,d=⟨.fn (.func g) cap.toArray,args.toArray⟩∧VS c ds (args++cap)
 | .mark id,d=>∃ b,c.φ id=some (b,0)∧d=⟨.collected b,#[]⟩
def DRs (c:Ctx):List DE->List Deferred->Prop
 | [],ds=>ds=[]
 | x::l,ds=>∃ d ds',ds=d::ds'∧DR c x d∧DRs c l ds'
theorem DR.keep {c c':Ctx}(k:am c c'):∀ (x:DE) (d:Deferred),DR c x d->DR c' x d
 | .call _ _,_,h=>let⟨args,cap,h1,h2⟩:=h;⟨args,cap,h1,VS.keep k _ _ h2⟩
 | .mark _,_,h=>let⟨b,h1,h2⟩:=h;⟨b,k.φ _ _ h1,h2⟩
theorem DRs.keep {c c':Ctx}(k:am c c'):∀ (l:List DE) (ds:List Deferred),DRs c l ds->DRs c' l ds
 | [],_,h=>h
 | x::l,_,h=>let⟨d,ds',h1,h2,h3⟩:=h;⟨d,ds',h1,DR.keep k x d h2,DRs.keep k l ds' h3⟩
def du (s:St) (ps:Array Tmp) (assign body:Code):aB:=(aB.put (aB.put ⟨s.h.next+2,s.h.bs⟩ s.h.next .dfr) (s.h.next+1) (.loop .ready none s.tmps ps.toList assign body))
inductive Ex (P:Program) (ti:TI) (cl:Cl) (eq:D->D->Bool) (top:Bool):Job->St->List DE->Exit->St->List DE->Prop
 | skip {s df}:Ex P ti cl eq top (.code .skip) s df .normal s df
 | label {l s df}:Ex P ti cl eq top (.code (.label l)) s df .normal s df
 | region {id ops s s' df} (h:fr P ti cl ops ops.toList s=some s'):Ex P ti cl eq top (.code (.region id ops false)) s df .normal s' df
 | draw {id ops s s' df} (hok:b6 ops=true) (h:bp P ti cl eq ops s=some s'):Ex P ti cl eq top (.code (.region id ops true)) s df .normal s' df
 | dfr {id ops s df pre o cc f g first as cap s1} (ht:top=true) (hops:ops.toList=pre++[o]) (ho:o.op=.defer cc) (hcal:cc.callee=.value f) (hg:o.guard=none) (h1:fr P ti cl ops pre s=some s1)
   (hf:ev s1.tmps f=some (.fn (.func g) first cap)) (ha:evs s1.tmps cc.args.toList=some as):Ex P ti cl eq top (.code (.region id ops false)) s df .normal ⟨dp s1.tmps o.dst aM,s1.h⟩ (.call g (first++as++cap)::df)
 | seq {x y s s1 e s' df df1 df'} (h1:Ex P ti cl eq top (.code x) s df .normal s1 df1) (h2:Ex P ti cl eq top (.code y) s1 df1 e s' df'):Ex P ti cl eq top (.code (.seq x y)) s df e s' df'
 | seqX {x y s e s1 df df1} (h1:Ex P ti cl eq top (.code x) s df e s1 df1) (hne:e≠.normal):Ex P ti cl eq top (.code (.seq x y)) s df e s1 df1
 | cond {c t x y s e s' df df'} (hc:ev s.tmps c=some (.v (.bool t))) (h:Ex P ti cl eq top (.code (if t then x else y)) s df e s' df'):Ex P ti cl eq top (.code (.cond c x y)) s df e s' df'
 | block {id c s e s' df df'} (h:Ex P ti cl eq top (.code c) s df e s' df'):Ex P ti cl eq top (.code (.block id c)) s df (mO id e) s' df'
 | loop {m c s e s' df df'} (h:Ex P ti cl eq top (.rounds m c) s df e s' df'):Ex P ti cl eq top (.code (.loop c)) s df e s' df'
 | roundN {m c s s1 e s' df df1 df'} (h1:Ex P ti cl eq top (.code c) s df .normal s1 df1) (h2:Ex P ti cl eq top (.rounds m c) s1 df1 e s' df'):Ex P ti cl eq top (.rounds (m+1) c) s df e s' df'
 | roundX {m c s e s1 df df1} (h1:Ex P ti cl eq top (.code c) s df e s1 df1) (hne:e≠.normal):Ex P ti cl eq top (.rounds (m+1) c) s df e s1 df1
 | exit {id s df}:Ex P ti cl eq top (.code (.exit id)) s df (.exit id) s df
 | ret {s df}:Ex P ti cl eq top (.code .ret) s df .ret s df
 | rangeN {g ps assign body s df gf first cap d h1 st tm ps' a' b'} (ht:top=true) (hg:ev s.tmps g=some (.fn (.func gf) first cap))
   (hc:cl (.fn gf) (first++[.yf (s.h.next+1)]++cap) (du s ps assign body)=some (d,h1)) (hl:h1.get (s.h.next+1)=some (.loop st none tm ps' a' b')) (hst:st≠.busy) :
   Ex P ti cl eq top (.code (.rangeFunc g ps assign body)) s df .normal ⟨s.tmps,h1.del (s.h.next+1)⟩ (.mark s.h.next::df)
 | rangeX {g ps assign body s df gf first cap d h1 st j tm ps' a' b' e s' df'} (ht:top=true) (hg:ev s.tmps g=some (.fn (.func gf) first cap))
   (hc:cl (.fn gf) (first++[.yf (s.h.next+1)]++cap) (du s ps assign body)=some (d,h1)) (hl:h1.get (s.h.next+1)=some (.loop st (some j) tm ps' a' b')) (hst:st≠.busy)
   (h:Ex P ti cl eq top (.code j) ⟨s.tmps,h1.del (s.h.next+1)⟩ (.mark s.h.next::df) e s' df') :
   Ex P ti cl eq top (.code (.rangeFunc g ps assign body)) s df e s' df'
 | weak {j s s0 e s' df df'} (hle:Le s s0) (h:Ex P ti cl eq top j s0 df e s' df'):Ex P ti cl eq top j s df e s' df'
def Job.wpIn (F:Fence) (n:Nat) (P:Program) (Q:Exit->Act->World->Prop):Job->Act->World->Prop
 | .code c,a,w=>c.wpIn F n P Q a w
 | .rounds m c,a,w=>Code.roundsIn F n P c Q m a w
section
variable {P:Program}{ti:TI}{cl:Cl}{eq:D->D->Bool}{top:Bool}{ro:Option Nat}{n:Nat}
theorem l9 (T:TOk P ti) (C:gm P cl) (ops:Array Oper) (l2:List Oper):∀ (l:List Oper) (s s':St) (c:Ctx) (a:Act) (Q:Exit->Act->World->Prop),fr P ti cl ops l s=some s'->Fit c s a ->
  (∀ c' a',Fit c' s' a'->aZ c s.h c' s'.h->(∀ j,j<s.h.next->c'.φ j=c.φ j)->a'.defers=a.defers->wpListIn (WF ro) n P ops Q l2 a' c'.w)->wpListIn (WF ro) n P ops Q (l++l2) a c.w
 | [],s,s',c,a,Q,hr,hfit,hQ=>by
  simp only[fr,kA] at hr;subst hr;exact hQ c a hfit (aZ.refl _ _) (λ_ _=>rfl) rfl
 | o::l,s,s',c,a,Q,hr,hfit,hQ=>by
  simp only[fr] at hr;simp only[List.cons_append,wpListIn];split at hr
  ·rename_i hw;rw[bO hfit.tmps hw,if_pos rfl];split at hr
   ·rename_i d h' hd;refine jz T C hfit.rel.bump (hfit.rel.fresh _ (kP _)) (by simp[bump]) hfit.tmps hd λv c' k1 k2 k3 k4=>?_
    refine l9 T C ops l2 l _ s' c' (a.put o.dst v) Q hr ⟨k2,bg (VS.keep k3.keeps _ _ hfit.tmps) k1⟩ λc2 a2 f2 g2 p2 df2=>?_
    refine hQ c2 a2 f2 (k3.bump.trans g2) (λj hj=>?_) (by rw[df2];cases o.dst<;>rfl);have h1:j<h'.next:=by have:=k3.next;simp only[bump] at this;omega
    rw[p2 j h1,k4 j (by simp only[bump];omega) om]
   ·simp at hr
  ·rename_i hw;rw[bO hfit.tmps hw,if_neg si];refine⟨λ_ _=>trivial,l9 T C ops l2 l _ s' c (a.put o.dst undef) Q hr ⟨hfit.rel,bg hfit.tmps V.undef⟩ λc2 a2 f2 g2 p2 df2=>?_⟩;exact hQ c2 a2 f2 g2 p2 (by rw[df2];cases o.dst<;>rfl)
  ·simp at hr
theorem jx {c:Ctx}{h:aB}(R:Rel c h){id b:Nat}{box box':Box}{o':Obj}(hg:h.get id=some box) (hφ:c.φ id=some (b,0)) (hsh:c.w.shape? b=none)
  (hb:am c { c with w:=c.w.putObj b o' }->(c.w.putObj b o').heap[b]?=some o'->BR { c with w:=c.w.putObj b o' } b 0 box') :
  Rel { c with w:=c.w.putObj b o' } (h.set id box')∧aZ c h { c with w:=c.w.putObj b o' } (h.set id box'):=by
 obtain⟨b0,o0,h1,_,h3⟩:=R.live id box hg;rw[hφ] at h1;injection h1 with h1;injection h1 with e1 e2;subst e1;subst e2
 exact R.turn hg hφ rfl ⟨rfl,kP _⟩ rfl si (λk hk=>World.putObj_heap_other hk) (λe z hz=>by rw[hsh] at hz;cases hz) λK=>hb K (World.putObj_heap_same h3.lt)
theorem gQ {w:World}{b:Nat}{L:Loop}(h:w.heap[b]?=some (.loop L)):w.shape? b=none:=by simp[World.shape?,h]
theorem A9 {w:World}{b:Nat}{x:Option (List Deferred)}(h:w.heap[b]?=some (.deferred x)):w.shape? b=none:=by simp[World.shape?,h]
theorem y7 {c:Ctx}{s:St}{a:Act}(hf:Fit c s a) (fn:FuncId) (ps:Array Tmp) (assign body:Code) :
  ∃ c1,c1.w=(c.w.alloc (.deferred (some []))).alloc (.loop { state:=.ready,pending:=none,fn,tmps:=a.tmps,params:=ps,assign,body,defers:=c.w.heap.size }) ∧
   Rel c1 (du s ps assign body)∧aZ c s.h c1 (du s ps assign body)∧c1.φ s.h.next=some (c.w.heap.size,0)∧c1.φ (s.h.next+1)=some (c.w.heap.size+1,0)∧∀ j,j<s.h.next->c1.φ j=c.φ j:=by
 have R0:Rel c ⟨s.h.next+2,s.h.bs⟩:=hf.rel.next om;have hφ0:c.φ s.h.next=none:=hf.rel.fresh _ (kP _);obtain⟨R1,G1⟩:=R0.push (id:=s.h.next) hφ0 (by show s.h.next<s.h.next+2;omega) (o:=.deferred (some [])) (box:=.dfr) ⟨rfl,Array.getElem?_push_size⟩;have hφ1:(c.push s.h.next (.deferred (some []))).φ (s.h.next+1)=none:=by rw[jI _ _ _ _ om];exact hf.rel.fresh _ om
 have hsz:(c.push s.h.next (.deferred (some []))).w.heap.size=c.w.heap.size+1:=by simp[Ctx.push]
 obtain⟨R2,G2⟩:=R1.push (id:=s.h.next+1) hφ1 (by show s.h.next+1<s.h.next+2;omega) (o:=.loop { state:=.ready,pending:=none,fn,tmps:=a.tmps,params:=ps,assign,body,defers:=c.w.heap.size }) (box:=.loop .ready none s.tmps ps.toList assign body)
  ⟨rfl,_,Array.getElem?_push_size,rfl,rfl,VS.keep (G1.keeps.trans (Ctx.push_keeps R1 hφ1 _)) _ _ hf.tmps,rfl,rfl,rfl⟩
 refine⟨_,rfl,R2,⟨G1.keeps.trans G2.keeps,G2.os.trans G1.os,G2.tape.trans G1.tape,G2.output.trans G1.output,Nat.le_trans G1.size G2.size,by show s.h.next<=s.h.next+2;omega,(G1.trans G2).frame,(G1.trans G2).own,(G1.trans G2).stable⟩,?_,?_,λj hj=>?_⟩
 ·rw[jI _ _ _ _ om,kU]
 ·rw[kU,hsz]
 ·rw[jI _ _ _ _ om,jI _ _ _ _ om]
theorem ib (C:gm P cl){c:Ctx}{s:St}{a:Act}{Q:Exit->Act->World->Prop}{g:Operand}{ps:Array Tmp}{assign body:Code}{gf:FuncId}{first cap:List D}{d:D}{h1:aB}{st:LoopState}{pend:Option Code}{tm:List D}{ps':List Tmp}{a' b':Code}
  (hf:Fit c s a) (hg:ev s.tmps g=some (.fn (.func gf) first cap)) (hc:cl (.fn gf) (first++[.yf (s.h.next+1)]++cap) (du s ps assign body)=some (d,h1)) (hl:h1.get (s.h.next+1)=some (.loop st pend tm ps' a' b')) (hst:st≠.busy)
  (hQ:∀ c1 dm,Fit c1 ⟨s.tmps,h1.del (s.h.next+1)⟩ { a with defers:=dm::a.defers }->aZ c s.h c1 (h1.del (s.h.next+1))->(∀ j,j<s.h.next->c1.φ j=c.φ j)->DR c1 (.mark s.h.next) dm ->
   match(generalizing:=false) pend with|none=>Q .normal { a with defers:=dm::a.defers } c1.w|some j=>j.wpIn (WF none) n P Q { a with defers:=dm::a.defers } c1.w):(Code.rangeFunc g ps assign body).wpIn (WF none) n P Q a c.w:=by
 refine wpIn_rangeFunc λfn _=>?_
 obtain⟨c1,hw1,R1,G1,p0,p1,pj⟩:=y7 hf fn ps assign body;have hv:=aI hf.rel.inv hf.tmps hg;simp only[V] at hv;obtain⟨xs,ys,hv,v1,v2⟩:=hv;obtain⟨hent,hcall⟩:=C _ _ _ _ _ hc
 have hall:VS c1 (first++[.yf (s.h.next+1)]++cap) (xs++[Value.func (.yield (c.w.heap.size+1)) #[] #[]]++ys):=
  ((VS.keep G1.keeps _ _ v1).append (VS.cons (by simp only[V];exact⟨_,p1,rfl⟩) VS.nil)).append (VS.keep G1.keeps _ _ v2)
 refine⟨c.w.heap.size+1,[⟨.collected c.w.heap.size,#[]⟩],c1.w,⟨.fn (.func gf) ys.toArray,(xs++[Value.func (.yield (c.w.heap.size+1)) #[] #[]]).toArray⟩,c1.w,gf,(xs++[Value.func (.yield (c.w.heap.size+1)) #[] #[]]++ys).toArray,c1.w,by rw[hw1];exact run_enterLoop_outer (P:=P) fn a.tmps ps assign body,?_,λ_ _=>trivial,?_,λhx=>by simp[WF,Fence.wide] at hx,?_⟩
 ·simp only[resolve,hv,Deferred.ofValue,Sem.run_pure];congr 3;apply Array.ext';simp[Act.eval]
 ·simp only[invoke];rw[show(xs++[Value.func (.yield (c.w.heap.size+1)) #[] #[]]).toArray++ys.toArray=(xs++[Value.func (.yield (c.w.heap.size+1)) #[] #[]]++ys).toArray from by apply Array.ext';simp];exact eY hent _ _
 ·refine uq ((hcall c1 _ R1 hall).mono ?_);rintro e w' ⟨v,c2,rfl,rfl,k1,k2,k3,k4⟩;have e1:c2.φ (s.h.next+1)=some (c.w.heap.size+1,0):=by rw[k4 _ (by show s.h.next+1<s.h.next+2;omega)];exact p1
  have e0:c2.φ s.h.next=some (c.w.heap.size,0):=by rw[k4 _ (by show s.h.next<s.h.next+2;omega)];exact p0
  obtain⟨bb,oo,q1,_,q3⟩:=k2.live _ _ hl;rw[e1] at q1;injection q1 with q1;injection q1 with q1 q2;subst q1;subst q2
  obtain⟨_,L,q4,q5,rfl,q7,q8⟩:=q3;obtain⟨R3,G3⟩:=jx k2 (box':=.loop .exhausted L.pending tm ps' a' b') (o':=.loop { L with state:=.exhausted }) hl e1 (gQ q4) λK hb=>⟨rfl,_,hb,rfl,rfl,VS.keep K _ _ q7,q8⟩
  obtain⟨R4,G4⟩:=R3.del (s.h.next+1)
  have hdel:(h1.set (s.h.next+1) (.loop .exhausted L.pending tm ps' a' b')).del (s.h.next+1)=h1.del (s.h.next+1):=by
   obtain⟨n1,b1⟩:=h1;exact congrArg (aB.mk n1) (CG _ _ _)
  rw[hdel] at R4 G4;have G:=(G1.trans k3).trans (G3.trans G4)
  have:=hQ { c2 with w:=c2.w.putObj (c.w.heap.size+1) (.loop { L with state:=.exhausted }) } ⟨.collected c.w.heap.size,#[]⟩ ⟨R4,VS.keep G.keeps _ _ hf.tmps⟩ G (λj hj=>by
   show c2.φ j=c.φ j
   rw[k4 j (by show j<s.h.next+2;omega),pj j hj]) ⟨_,e0,rfl⟩
  refine⟨L.pending,_,run_endLoop q4 (by rw[q5];exact hst),?_⟩;generalize L.pending=pp at this ⊢;cases pp<;>exact this
theorem Ex.sound (hm:P.follows .mixedOrders=true) (T:TOk P ti) (C:gm P cl) (E:∀ a b,eq a b=true->a=b) (hro:top=true->ro=none){j:Job}{s:St}{df:List DE}{e:Exit}{s':St}{df':List DE}(h:Ex P ti cl eq top j s df e s' df') :
  ∀ (c:Ctx) (a:Act) (Q:Exit->Act->World->Prop),Fit c s a->DRs c df a.defers->(∀ c' a',Fit c' s' a'->aZ c s.h c' s'.h->(∀ j,j<s.h.next->c'.φ j=c.φ j)->DRs c' df' a'.defers->Q e a' c'.w)->j.wpIn (WF ro) n P Q a c.w:=by
 induction h with
 | skip=>exact λc a Q hf hd hQ=>wpIn_skip (hQ c a hf (aZ.refl _ _) (λ_ _=>rfl) hd)
 | label=>exact λc a Q hf hd hQ=>wpIn_label (hQ c a hf (aZ.refl _ _) (λ_ _=>rfl) hd)
 | region h=>exact λc a Q hf hd hQ=>wpIn_region_list (n9 T C _ _ _ _ _ _ _ h hf λc' a' f1 g1 p1 d1=>hQ c' a' f1 g1 p1 (by rw[d1];exact DRs.keep g1.keeps _ _ hd))
 | draw hok h=>exact λc a Q hf hd hQ=>fO hm T C E hok h hf λc' a' f1 g1 p1 d1=>hQ c' a' f1 g1 p1 (by rw[d1];exact DRs.keep g1.keeps _ _ hd)
 | @dfr id ops s df pre o cc f g first as cap s1 ht hops ho hcal hg h1 hfv ha=>
  intro c a Q hf hd hQ;have hr0:=hro ht;subst hr0;refine wpIn_region_list ?_;rw[hops];refine l9 T C ops [o] pre s s1 c a Q h1 hf λc' a' f1 g1 p1 d1=>?_
  simp only[wpListIn];have hw:Region.wanted o (yielded ops a'.tmps)=true:=by unfold Region.wanted;simp[hg]
  rw[hw,if_pos rfl];have hv:=aI f1.rel.inv f1.tmps hfv;simp only[V] at hv;obtain⟨xs,ys,hv,v1,v2⟩:=hv;have hargs:=b9 f1.rel.inv f1.tmps ha
  have hrun:(o.semAt none a'.eval).run P c'.w=.ok (.defer ⟨.fn (.func g) ys.toArray,(xs++cc.args.toList.map a'.eval).toArray⟩) c'.w:=by
   show(execOp a'.eval o).run P c'.w=_;unfold execOp;simp only[ho,resolve,hcal,Sem.run_bind,hv,Deferred.ofValue,Sem.run_pure,Result.andThen];congr 3;apply Array.ext';simp
  refine⟨λ_ _=>trivial,?_⟩;show o.uponIn (WF none) n P a' _ Q ((o.semAt none a'.eval).run P c'.w);rw[hrun];refine hQ c' _ ⟨f1.rel,bg (a:={ a' with defers:=_ }) f1.tmps V.undef⟩ g1 p1 ?_
  have:({ a' with defers:=⟨.fn (.func g) ys.toArray,(xs++cc.args.toList.map a'.eval).toArray⟩::a'.defers }:Act).put o.dst undef={ (a'.put o.dst undef) with defers:=⟨.fn (.func g) ys.toArray,(xs++cc.args.toList.map a'.eval).toArray⟩::a'.defers }:=by cases o.dst<;>rfl
  rw[this];exact⟨_,_,rfl,⟨_,_,rfl,(v1.append hargs).append v2⟩,by rw[d1];exact DRs.keep g1.keeps _ _ hd⟩
 | seq h1 h2 i1 i2=>
  intro c a Q hf hd hQ;refine wpIn_seq (i1 c a _ hf hd λc1 a1 f1 g1 p1 d1=>i2 c1 a1 Q f1 d1 λc2 a2 f2 g2 p2 d2=>hQ c2 a2 f2 (g1.trans g2) (λj hj=>?_) d2);have:=g1.next
  rw[p2 j om,p1 j hj]
 | @seqX x y s e s1 df df1 h1 hne i1=>
  intro c a Q hf hd hQ;refine wpIn_seq (i1 c a _ hf hd λc1 a1 f1 g1 p1 d1=>?_);have:=hQ c1 a1 f1 g1 p1 d1
  cases e<;>first|exact absurd rfl hne|exact this
 | cond hc h i=>
  intro c a Q hf hd hQ;have hb:=aI hf.rel.inv hf.tmps hc;simp only[V] at hb;exact wpIn_cond hb.2 (i c a Q hf hd hQ)
 | @block id c0 s e s' df df' h i=>
  intro c a Q hf hd hQ;refine wpIn_block (i c a _ hf hd λc1 a1 f1 g1 p1 d1=>?_);have:=hQ c1 a1 f1 g1 p1 d1
  cases e with
  | exit i=>
   simp only[Exit.inBlock];simp only[mO] at this;split
   ·rename_i hi;rwa [if_pos hi] at this
   ·rename_i hi;rwa [if_neg hi] at this
  | _=>exact this
 | loop h i=>exact λc a Q hf hd hQ=>wpIn_loop_rounds _ (i c a Q hf hd hQ)
 | roundN h1 h2 i1 i2=>
  intro c a Q hf hd hQ;refine i1 c a _ hf hd λc1 a1 f1 g1 p1 d1=>i2 c1 a1 Q f1 d1 λc2 a2 f2 g2 p2 d2=>hQ c2 a2 f2 (g1.trans g2) (λj hj=>?_) d2
  have:=g1.next
  rw[p2 j om,p1 j hj]
 | @roundX m c0 s e s1 df df1 h1 hne i1=>
  intro c a Q hf hd hQ;refine i1 c a _ hf hd λc1 a1 f1 g1 p1 d1=>?_
  have:=hQ c1 a1 f1 g1 p1 d1
  cases e<;>first|exact absurd rfl hne|exact this
 | exit=>exact λc a Q hf hd hQ=>wpIn_exit (hQ c a hf (aZ.refl _ _) (λ_ _=>rfl) hd)
 | ret=>exact λc a Q hf hd hQ=>wpIn_ret (hQ c a hf (aZ.refl _ _) (λ_ _=>rfl) hd)
 | @rangeN g ps assign body s df gf first cap d h1 st tm ps' a' b' ht hg hc hl hst=>
  intro c a Q hf hd hQ;have hr0:=hro ht;subst hr0;refine ib C hf hg hc hl hst λc1 a1 f1 g1 p1 d1=>?_
  exact hQ c1 _ f1 g1 p1 ⟨_,_,rfl,d1,DRs.keep g1.keeps _ _ hd⟩
 | @rangeX g ps assign body s df gf first cap d h1 st j tm ps' a' b' e s' df' ht hg hc hl hst h i=>
  intro c a Q hf hd hQ;have hr0:=hro ht;subst hr0;refine ib C hf hg hc hl hst λc1 a1 f1 g1 p1 d1=>?_
  refine i c1 _ Q f1 ⟨_,_,rfl,d1,DRs.keep g1.keeps _ _ hd⟩ λc2 a2 f2 g2 p2 d2=>hQ c2 a2 f2 (g1.trans g2) (λj hj=>?_) d2
  have:=g1.next
  rw[p2 j (Nat.lt_of_lt_of_le hj this),p1 j hj]
 | weak hle h i=>
  intro c a Q hf hd hQ;obtain⟨c0,e0,f0,g0,p0⟩:=hle c a hf;rw[<-e0];refine i c0 a Q f0 (DRs.keep g0.keeps _ _ hd) λc1 a1 f1 g1 p1 d1=>hQ c1 a1 f1 (g0.trans g1) (λj hj=>?_) d1
  have:=g0.next
  rw[p1 j om,p0 j hj]
def dj (tmps:Array Value):ResultVar->Sem Value
 | .tmp t=>pure (tmps.getD t undef)
 | .cell a t=>do loadVar t (<-asAddr (tmps.getD a undef))
theorem yX (fn:Func) (tmps:Array Value):results fn tmps=(do let vs <-fn.results.mapM (dj tmps);pure (if h:vs.size=1 then vs[0] else .tuple vs)):=by
 unfold results;congr 2
def gS (ti:TI) (s:St):ResultVar->Option D
 | .tmp t=>ev s.tmps (.tmp t)
 | .cell a t=>match ev s.tmps (.tmp a) with|some d=>iH ti s.h t d|none=>none
def cr (ti:TI) (s:St):List ResultVar->Option (List D)
 | []=>some []
 | r::rs=>match gS ti s r,cr ti s rs with|some d,some ds=>some (d::ds)|_,_=>none
def ob:List D->Option D
 | [d]=>some d
 | ds=>if ds.length<=4 then some (.tup ds) else none
def gu (ti:TI) (fn:Func) (s:St):Option D:=match cr ti s fn.results.toList with|some ds=>ob ds|none=>none
theorem su (a:Act) (t:Nat):a.tmps.getD t undef=a.eval (.tmp t):=by
 simp[Act.eval,Array.getD]
theorem tx (T:TOk P ti){c:Ctx}{s:St}{a:Act}(hf:Fit c s a){r:ResultVar}{d:D}(h:gS ti s r=some d):∃ v,(dj a.tmps r).run P c.w=.ok v c.w∧V c d v:=by
 cases r with
 | tmp t=>exact⟨_,rfl,by rw[su];exact aI hf.rel.inv hf.tmps h⟩
 | cell x t=>
  simp only[gS] at h;split at h
  ·rename_i da ha;obtain⟨v,h1,h2⟩:=mE (P:=P) T hf.rel h (aI hf.rel.inv hf.tmps ha);refine⟨v,?_,h2⟩;rw[<-h1];simp only[dj,su,Instr.loadAt];have hv:=aI hf.rel.inv hf.tmps ha;unfold iH at h;split at h
   ·split at h
    ·simp only[V] at hv;obtain⟨_,_,_,hv⟩:=hv;rw[hv];rfl
    ·simp only[V] at hv;obtain⟨_,_,_,hv,_⟩:=hv;rw[hv];rfl
    ·simp at h
   ·simp at h
  ·simp at h
theorem lc (T:TOk P ti){c:Ctx}{s:St}{a:Act}(hf:Fit c s a):∀ {rs:List ResultVar}{ds:List D},cr ti s rs=some ds->∃ vs,(rs.mapM (dj a.tmps)).run P c.w=.ok vs c.w∧VS c ds vs
 | [],ds,h=>by simp only[cr,kA] at h;subst h;exact⟨[],rfl,VS.nil⟩
 | r::rs,ds,h=>by
  simp only[cr] at h;split at h
  ·rename_i d ds' h1 h2;simp only[kA] at h;subst h;obtain⟨v,e1,v1⟩:=tx (P:=P) T hf h1;obtain⟨vs,e2,v2⟩:=lc T hf h2;refine⟨v::vs,?_,VS.cons v1 v2⟩;rw[List.mapM_cons];simp[e1,e2]
  ·simp at h
theorem dN (T:TOk P ti){c:Ctx}{s:St}{a:Act}(hf:Fit c s a){fn:Func}{d:D}(h:gu ti fn s=some d):∃ v,(results fn a.tmps).run P c.w=.ok v c.w∧V c d v:=by
 unfold gu at h;split at h
 ·rename_i ds hds;obtain⟨vs,e1,v1⟩:=lc (P:=P) T hf hds
  have hm:(fn.results.mapM (dj a.tmps)).run P c.w=.ok vs.toArray c.w:=by
   have:fn.results.mapM (dj a.tmps)=(do let l <-fn.results.toList.mapM (dj a.tmps);pure l.toArray):=by
    rw[Array.mapM_eq_mapM_toList];simp
   rw[this];simp[e1]
  have hl:=v1.length;refine⟨if h:vs.toArray.size=1 then vs.toArray[0] else .tuple vs.toArray,by rw[yX];simp[hm],?_⟩;unfold ob at h;split at h
  ·simp only[kA] at h;subst h;obtain⟨y,ys,rfl,hy,h0⟩:=v1.inv;simp only[VS] at h0;subst h0;simpa using hy
  ·rename_i hne;split at h
   ·simp only[kA] at h;subst h
    have:¬vs.toArray.size=1:=by
     simp only[List.size_toArray,hl];intro h1;obtain⟨x,hx⟩:=List.length_eq_one_iff.1 h1;exact hne x hx
    rw[dif_neg this];simp only[V];exact⟨vs,rfl,v1⟩
   ·simp at h
 ·simp at h
def fm (fn:Func) (ds:List D) (h:aB):St:=⟨ds++List.replicate (fn.ntmps-ds.length) aM,h⟩
def DC1 (P:Program) (g:FuncId) (ds:List D) (h h':aB):Prop:=
 dK P g=true∧∀ c vs,Rel c h->VS c ds vs->∀ n,CallsDIn (WF none) n P g vs.toArray .returning c.w (λe u w'=>∃ v c',e=.returned v∧u=.returning∧c'.w=w'∧Rel c' h'∧aZ c h c' h'∧∀ j,j<h.next->c'.φ j=c.φ j)
abbrev Dl:=FuncId->List D->aB->Option aB
def zT (P:Program) (dl:Dl):Prop:=∀ g ds h h',dl g ds h=some h'->DC1 P g ds h h'
def ej (dl:Dl):List DE->aB->Option aB
 | [],h=>some h
 | .mark id::l,h=>match h.get id with|some .dfr=>ej dl l (h.del id)|_=>none
 | .call g ds::l,h=>match dl g ds h with|some h'=>ej dl l h'|none=>none
theorem iC {dl:Dl}(DL:zT P dl){fn:Func}{tmps:Array Value}{R:Ending->World->Prop}:∀ (df:List DE) (ds:List Deferred) (c:Ctx) (h h':aB),ej dl df h=some h'->Rel c h->DRs c df ds ->
  (∀ c',Rel c' h'->aZ c h c' h'->(∀ j,j<h.next->c'.φ j=c.φ j)->∃ v,(results fn tmps).run P c'.w=.ok v c'.w∧R (.returned v) c'.w)->LeavesInM (WF none) n P fn tmps R ds .returning c.w
 | [],ds,c,h,h',hl,hr,hd,hR=>by
  simp only[DRs] at hd;subst hd;simp only[ej,kA] at hl;subst hl;exact hR c hr (aZ.refl _ _) λ_ _=>rfl
 | .mark id::l,ds,c,h,h',hl,hr,hd,hR=>by
  obtain⟨d,ds',rfl,⟨b,hφ,rfl⟩,hd'⟩:=hd;simp only[ej] at hl;split at hl
  ·rename_i hg;obtain⟨b',o',q1,_,q3⟩:=hr.live _ _ hg;rw[hφ] at q1;injection q1 with q1;injection q1 with q1 q2;subst q1;subst q2
   obtain⟨R1,G1⟩:=hr.del id
   have hno:∀ k,bG c (h.del id) k->k≠b:=λk ⟨j,bx,o,hgj,hφj⟩ e=>by
    subst e;rw[aB.get_del] at hgj;split at hgj
    ·cases hgj
    ·rename_i hne;exact hne (hr.inj id j _ _ k 0 o hg hgj hφ hφj)
   have K:am c { c with w:=c.w.putObj b (.deferred none) }:=⟨λ_ h=>h,λ_ _ h=>h,λk hk=>World.putObj_heap_other λe=>by
    subst e;obtain⟨b2,o2,z1,z2,_⟩:=hr.live _ _ hg;rw[hφ] at z1;injection z1 with z1;injection z1 with z1 _;subst z1
    exact z2 hk,λk e z hz=>by
    by_cases hk:k=b
    ·subst hk;rw[A9 q3.2] at hz;cases hz
    ·unfold World.shape? at *;rw[show({ c with w:=c.w.putObj b (.deferred none) }:Ctx).w.heap[k]?=c.w.heap[k]? from World.putObj_heap_other hk];exact hz⟩
   have R2:Rel { c with w:=c.w.putObj b (.deferred none) } (h.del id):=⟨λk hk=>by have:=hr.size k hk;simpa using this,R1.fresh,λj bx hgj=>by
    obtain⟨k,o,y1,y2,y3⟩:=R1.live j bx hgj
    exact⟨k,o,y1,y2,y3.keep K (World.putObj_heap_other (hno k ⟨j,bx,o,hgj,y1⟩))⟩,R1.inj,GT.kept K R1.inv⟩
   have G2:aZ c h { c with w:=c.w.putObj b (.deferred none) } (h.del id):=⟨K,rfl,⟨rfl,kP _⟩,rfl,by simp,kP _,λk hk hn=>World.putObj_heap_other λe=>hn (by subst e;exact⟨id,_,0,hg,hφ⟩),λk ho=>G1.own k ho,λ_ h=>.inl h⟩;refine⟨by simp,.inl ⟨b,_,rfl,run_takeDeferred q3.2,?_⟩⟩;exact iC DL l ds' _ (h.del id) h' hl R2 (DRs.keep K _ _ hd') λc' r' g' p'=>hR c' r' (G2.trans g') p'
  ·simp at hl
 | .call g as::l,ds,c,h,h',hl,hr,hd,hR=>by
  obtain⟨d,ds',rfl,⟨args,cap,rfl,hv⟩,hd'⟩:=hd;simp only[ej] at hl;split at hl
  ·rename_i h1 hdl;obtain⟨hent,hcall⟩:=DL _ _ _ _ hdl;refine⟨by simp,.inr ⟨λhx=>by simp[WF,Fence.wide] at hx,_,_,g,(args++cap).toArray,rfl,?_,λ_ _=>trivial,(hcall c _ hr hv _).mono ?_⟩⟩
   ·simp only[invoke];rw[show args.toArray++cap.toArray=(args++cap).toArray from by apply Array.ext';simp];exact eY hent _ _
   ·rintro e u w' ⟨v,c',rfl,rfl,rfl,r1,g1,p1⟩;refine iC DL l ds' c' h1 h' hl r1 (DRs.keep g1.keeps _ _ hd') λc2 r2 g2 p2=>hR c2 r2 (g1.trans g2) λj hj=>?_
    have:=g1.next
    rw[p2 j om,p1 j hj]
  ·simp at hl
end
end Go.Am
/-
 The abstract machine,part 22: code and calls,carried out.
-/
namespace Go.Am
variable [GT]
def eqV:Value->Value->Bool
 | .bool a,.bool b=>a == b
 | .int k a,.int k' b=>decide (k=k')&&a == b
 | .pointer none,.pointer none=>true
 | .slice none a b,.slice none a' b'=>a == a' && b == b'
 | .map none,.map none=>true
 | .nilFunc,.nilFunc=>true
 | .nilIface,.nilIface=>true
 | _,_=>false
theorem ER:∀ a b,eqV a b=true->a=b:=by
 intro a b h;unfold eqV at h;split at h<;>simp_all
mutual
def eqD:D->D->Bool
 | .v a,.v b=>eqV a b
 | .str a,.str b=>a == b
 | .imm n a,.imm m b=>n == m&&oN a b
 | .iptr a,.iptr b=>oN a b
 | .sl i o n c e x,.sl i' o' n' c' e' x'=>i == i' && o == o' && n == n' && c == c' && e == e' && x == x'
 | .ptr i o,.ptr i' o'=>i == i' && o == o'
 | .agg a,.agg b=>oN a b
 | .tup a,.tup b=>oN a b
 | .fn f a b,.fn g c d=>decide (f=g)&&oN a c&&oN b d
 | .map i,.map j=>i == j
 | .iface t a,.iface u b=>t == u&&eqD a b
 | .e0,.e0=>true
 | .any,.any=>true
 | .yf i,.yf j=>i == j
 | .zs i,.zs j=>i == j
 | _,_=>false
def oN:List D->List D->Bool
 | [],[]=>true
 | a::l,b::m=>eqD a b&&oN l m
 | _,_=>false
end
mutual
theorem ko:∀ a b,eqD a b=true->a=b
 | .v a,b,h=>by cases b<;>simp[eqD] at h;rw[ER _ _ h]
 | .str a,b,h=>by cases b<;>simp[eqD] at h;rw[h]
 | .imm n a,b,h=>by cases b<;>simp[eqD] at h;rw[h.1,gE _ _ h.2]
 | .iptr a,b,h=>by cases b<;>simp[eqD] at h;rw[gE _ _ h]
 | .sl ..,b,h=>by cases b<;>simp[eqD] at h;obtain⟨⟨⟨⟨⟨rfl,rfl⟩,rfl⟩,rfl⟩,rfl⟩,rfl⟩:=h;rfl
 | .ptr ..,b,h=>by cases b<;>simp[eqD] at h;obtain⟨rfl,rfl⟩:=h;rfl
 | .agg a,b,h=>by cases b<;>simp[eqD] at h;rw[gE _ _ h]
 | .tup a,b,h=>by cases b<;>simp[eqD] at h;rw[gE _ _ h]
 | .fn f a b,d,h=>by cases d<;>simp[eqD] at h;rw[h.1.1,gE _ _ h.1.2,gE _ _ h.2]
 | .map i,b,h=>by cases b<;>simp[eqD] at h;rw[h]
 | .iface t a,b,h=>by cases b<;>simp[eqD] at h;rw[h.1,ko _ _ h.2]
 | .e0,b,h=>by cases b<;>simp[eqD] at h;rfl
 | .any,b,h=>by cases b<;>simp[eqD] at h;rfl
 | .yf i,b,h=>by cases b<;>simp[eqD] at h;rw[h]
 | .zs i,b,h=>by cases b<;>simp[eqD] at h;rw[h]
theorem gE:∀ a b,oN a b=true->a=b
 | [],b,h=>by cases b<;>simp[oN] at h;rfl
 | x::l,b,h=>by cases b<;>simp[oN] at h;rw[ko _ _ h.1,gE _ _ h.2]
end
def fc (ps:List Tmp) (ds:List D) (tm:List D):List D:=(ps.zip ds).foldl (λt p=>t.set p.1 p.2) tm
def ki:Exit->Option (Option Code)
 | .normal=>some none
 | .ret=>some (some .ret)
 | .exit x=>some (some (.exit x))
 | .goto t=>some (some (.goto t))
 | _=>none
def rM (j:Option Code):LoopState:=if j.isNone then .ready else .done
theorem j7 {c:Ctx}:∀ (ps:List Tmp) (ds:List D) (vs:List Value) (tm:List D) (tmps:Array Value),VS c ds vs->VS c tm tmps.toList->VS c (fc ps ds tm) ((ps.zip vs).foldl (λ(t:Array Value) p=>t.setIfInBounds p.1 p.2) tmps).toList
 | [],ds,vs,tm,tmps,_,ht=>by simpa [fc] using ht
 | p::ps,[],vs,tm,tmps,hv,ht=>by simp only[VS] at hv;subst hv;simpa [fc] using ht
 | p::ps,d::ds,vs,tm,tmps,hv,ht=>by
  obtain⟨y,ys,rfl,h1,h2⟩:=hv.inv;have:=j7 ps ds ys (tm.set p d) (tmps.setIfInBounds p y) h2 (by rw[Array.toList_setIfInBounds];exact ht.set p h1)
  simpa [fc] using this
theorem vC {ps:Array Tmp}{vs:List Value}{tmps:Array Value}:(ps.zip vs.toArray).foldl (λtmps (t,a)=>tmps.setIfInBounds t a) tmps=(ps.toList.zip vs).foldl (λ(t:Array Value) p=>t.setIfInBounds p.1 p.2) tmps:=by
 rw[<-Array.foldl_toList];simp[Array.toList_zip]
section
variable (P:Program) (ti:TI)
def EW (cl:Cl) (ops:Array Oper) (s:St) (df:List DE):Option (St×List DE):=
 match ops.toList.getLast? with
 | some o=>
  match o.op with
  | .defer cc=>
   match cc.callee with
   | .value f=>
    match o.guard with
    | none=>
     match fr P ti cl ops ops.toList.dropLast s with
     | some s1=>
      match ev s1.tmps f,evs s1.tmps cc.args.toList with
      | some (.fn (.func g) first cap),some as=>some (⟨dp s1.tmps o.dst aM,s1.h⟩,.call g (first++as++cap)::df)
      | _,_=>none
     | none=>none
    | some _=>none
   | _=>none
  | _=>none
 | none=>none
def exec (cl:Cl) (top:Bool):Nat->Code->St->List DE->Option (Exit×St×List DE)
 | 0,_,_,_=>none
 | f+1,c,s,df=>
  match c with
  | .skip=>some (.normal,s,df)
  | .label _=>some (.normal,s,df)
  | .region _ ops false=>
   match fr P ti cl ops ops.toList s with
   | some s'=>some (.normal,s',df)
   | none=>if top then(match EW P ti cl ops s df with|some (s',df')=>some (.normal,s',df')|none=>none) else none
  | .region _ ops true=>if b6 ops then(match bp P ti cl eqD ops s with|some s'=>some (.normal,s',df)|none=>none) else none
  | .seq x y=>match exec cl top f x s df with|some (.normal,s1,df1)=>exec cl top f y s1 df1|r=>r
  | .cond c x y=>match ev s.tmps c with|some (.v (.bool t))=>exec cl top f (if t then x else y) s df|_=>none
  | .block id c=>match exec cl top f c s df with|some (e,s',df')=>some (mO id e,s',df')|none=>none
  | .loop c=>match exec cl top f c s df with|some (.normal,s1,df1)=>exec cl top f (.loop c) s1 df1|r=>r
  | .exit id=>some (.exit id,s,df)
  | .ret=>some (.ret,s,df)
  | .rangeFunc g ps assign body=>
   if top then
    match ev s.tmps g with
    | some (.fn (.func gf) first cap)=>
     match cl (.fn gf) (first++[.yf (s.h.next+1)]++cap) (du s ps assign body) with
     | some (_,h1)=>
      match h1.get (s.h.next+1) with
      | some (.loop st pend _ _ _ _)=>
       if st=.busy then none else
       match pend with
       | none=>some (.normal,⟨s.tmps,h1.del (s.h.next+1)⟩,.mark s.h.next::df)
       | some j=>exec cl top f j ⟨s.tmps,h1.del (s.h.next+1)⟩ (.mark s.h.next::df)
      | _=>none
     | none=>none
    | _=>none
   else none
  | _=>none
theorem fW (cl:Cl) (top:Bool):∀ (f:Nat) (c:Code) (s:St) (df:List DE) (e:Exit) (s':St) (df':List DE),exec P ti cl top f c s df=some (e,s',df') ->
  Ex P ti cl eqD top (.code c) s df e s' df'∧∀ b,c=.loop b->∃ m,Ex P ti cl eqD top (.rounds m b) s df e s' df'
 | 0,c,s,df,e,s',df',h=>by simp[exec] at h
 | f+1,c,s,df,e,s',df',h=>by
  cases c with
  | skip=>simp only[exec,kA,kB] at h;obtain⟨rfl,rfl,rfl⟩:=h;exact⟨.skip,λb hb=>by cases hb⟩
  | label l=>simp only[exec,kA,kB] at h;obtain⟨rfl,rfl,rfl⟩:=h;exact⟨.label,λb hb=>by cases hb⟩
  | region id ops d=>
   cases d with
   | false=>
    simp only[exec] at h;split at h
    ·rename_i s1 h1;simp only[kA,kB] at h;obtain⟨rfl,rfl,rfl⟩:=h;exact⟨.region h1,λb hb=>by cases hb⟩
    ·split at h
     ·rename_i htop;split at h
      ·rename_i s1 df1 hd;simp only[kA,kB] at h;obtain⟨rfl,rfl,rfl⟩:=h;refine⟨?_,λb hb=>by cases hb⟩;unfold EW at hd;split at hd
       ·rename_i o hl;split at hd
        ·rename_i cc ho;split at hd
         ·rename_i fo hcal;split at hd
          ·rename_i hgd;split at hd
           ·rename_i s1' h1;split at hd
            ·rename_i g first cap as hfv has;simp only[kA,kB] at hd;obtain⟨rfl,rfl⟩:=hd;refine .dfr htop ?_ ho hcal hgd h1 hfv has;obtain⟨ys,hys⟩:=List.getLast?_eq_some_iff.1 hl;rw[hys,List.dropLast_concat]
            ·simp at hd
           ·simp at hd
          ·simp at hd
         ·simp at hd
        ·simp at hd
       ·simp at hd
      ·simp at h
     ·simp at h
   | true=>
    simp only[exec] at h;split at h
    ·rename_i hok;split at h
     ·rename_i s1 h1;simp only[kA,kB] at h;obtain⟨rfl,rfl,rfl⟩:=h;exact⟨.draw hok h1,λb hb=>by cases hb⟩
     ·simp at h
    ·simp at h
  | seq x y=>
   simp only[exec] at h;refine⟨?_,λb hb=>by cases hb⟩;split at h
   ·rename_i s1 df1 h1;exact .seq (fW cl top f x s df _ s1 df1 h1).1 (fW cl top f y s1 df1 e s' df' h).1
   ·rename_i hne;exact .seqX (fW cl top f x s df e s' df' h).1 λhe=>hne s' df' (by rw[h,he])
  | cond c x y=>
   simp only[exec] at h;split at h
   ·rename_i t hc;exact⟨.cond hc (fW cl top f _ s df e s' df' h).1,λb hb=>by cases hb⟩
   ·simp at h
  | block id c=>
   simp only[exec] at h;split at h
   ·rename_i e1 s1 df1 h1;simp only[kA,kB] at h;obtain⟨rfl,rfl,rfl⟩:=h;exact⟨.block (fW cl top f c s df e1 s1 df1 h1).1,λb hb=>by cases hb⟩
   ·simp at h
  | loop c=>
   simp only[exec] at h
   have key:∃ m,Ex P ti cl eqD top (.rounds m c) s df e s' df':=by
    split at h
    ·rename_i s1 df1 h1;obtain⟨m,hm⟩:=(fW cl top f (.loop c) s1 df1 e s' df' h).2 c rfl;exact⟨m+1,.roundN (fW cl top f c s df _ s1 df1 h1).1 hm⟩
    ·rename_i hne;exact⟨1,.roundX (fW cl top f c s df e s' df' h).1 λhe=>hne s' df' (by rw[h,he])⟩
   obtain⟨m,hm⟩:=key;exact⟨.loop hm,λb hb=>by cases hb;exact⟨m,hm⟩⟩
  | exit id=>simp only[exec,kA,kB] at h;obtain⟨rfl,rfl,rfl⟩:=h;exact⟨.exit,λb hb=>by cases hb⟩
  | ret=>simp only[exec,kA,kB] at h;obtain⟨rfl,rfl,rfl⟩:=h;exact⟨.ret,λb hb=>by cases hb⟩
  | rangeFunc g ps assign body=>
   simp only[exec] at h;refine⟨?_,λb hb=>by cases hb⟩;split at h
   ·rename_i htop;split at h
    ·rename_i gf first cap hg;split at h
     ·rename_i d h1 hc;split at h
      ·rename_i st pend _ _ _ _ hl;split at h
       ·simp at h
       ·rename_i hst;split at h
        ·simp only[kA,kB] at h;obtain⟨rfl,rfl,rfl⟩:=h;exact .rangeN htop hg hc hl hst
        ·exact .rangeX htop hg hc hl hst (fW cl top f _ _ _ e s' df' h).1
      ·simp at h
     ·simp at h
    ·simp at h
   ·simp at h
  | _=>simp[exec] at h
end
end Go.Am
/-
 The abstract machine,part 23: what is known of a program's types,read off the program.
-/
namespace Go.Am
variable [GT]
def pH (P:Program) (t:TypeId):Option eH:=
 match P.underlying t with
 | some u=>
  match P.info? t with
  | some i=>
   match i.zero with
   | some z=>
    match wO z.cells.toList with
    | some l=>
     match ofV z with
     | some dz=>if eqD dz (eH.zeroD ⟨u,i.size,i.bytes,l,P.stoodInHeld t⟩)&&l.length == i.size then some ⟨u,i.size,i.bytes,l,P.stoodInHeld t⟩ else none
     | none=>none
    | none=>none
   | none=>none
  | none=>none
 | none=>none
theorem td (P:Program):TOk P (pH P):=⟨λt x h=>by
 unfold pH at h;split at h
 ·rename_i u hu;split at h
  ·rename_i i hi;split at h
   ·rename_i z hz;split at h
    ·rename_i l hl;split at h
     ·rename_i dz hdz;split at h
      ·rename_i hc;simp only[kC,beq_iff_eq] at hc;simp only[kA] at h;subst h;exact⟨hu,i,z,hi,rfl,rfl,hz,hl,by rw[hdz,ko _ _ hc.1],hc.2⟩
      ·simp at h
     ·simp at h
    ·simp at h
   ·simp at h
  ·simp at h
 ·simp at h,λt x h=>by
 unfold pH at h;split at h
 ·split at h
  ·split at h
   ·split at h
    ·split at h
     ·split at h
      ·simp only[kA] at h;subst h;rfl
      ·simp at h
     ·simp at h
    ·simp at h
   ·simp at h
  ·simp at h
 ·simp at h⟩
end Go.Am
/-
 The abstract machine,part 24: freezing what a call made;a contract of a function over data alone holds over every heap.
-/
namespace Go.Am
variable [GT]
mutual
def aL:D->Bool
 | .v _|.str _|.e0|.any|.zs _=>true
 | .imm _ cs|.iptr cs|.agg cs|.tup cs=>aK cs
 | .fn _ a b=>aK a&&aK b
 | .iface _ d=>aL d
 | .sl ..|.ptr ..|.map _|.yf _=>false
def aK:List D->Bool
 | []=>true
 | d::ds=>aL d&&aK ds
end
mutual
theorem V.move {c c':Ctx}(hS:∀ b,c.S b->c'.S b∧c'.w.heap[b]?=c.w.heap[b]?):∀ (d:D) (y:Value),aL d=true->V c d y->V c' d y
 | .v x,y,_,h=>h
 | .str s,y,_,h=>h
 | .imm n cs,y,hn,h=>by
  simp only[V,aL] at *;obtain⟨a,cap,ys,h1,hc,h2,h3⟩:=h;refine⟨a,cap,ys,h1,hc,VS.move hS cs ys hn h2,h3.imp id ?_⟩;rintro⟨b,o,ha,hs,hh⟩;exact⟨b,o,ha,(hS b hs).1,hh.keep (hS b hs).2⟩
 | .iptr cs,y,hn,h=>by
  simp only[V,aL] at *;obtain⟨b,o,ys,h1,h2,h3⟩:=h;exact⟨b,o,ys,h1,VS.move hS cs ys hn h2,h3.imp id λ⟨hs,hh⟩=>⟨(hS b hs).1,hh.keep (hS b hs).2⟩⟩
 | .sl ..,y,hn,h=>by simp[aL] at hn
 | .ptr ..,y,hn,h=>by simp[aL] at hn
 | .map _,y,hn,h=>by simp[aL] at hn
 | .yf _,y,hn,h=>by simp[aL] at hn
 | .agg cs,y,hn,h=>by
  simp only[V,aL] at *;obtain⟨ys,h1,h2⟩:=h;exact⟨ys,h1,VS.move hS cs ys hn h2⟩
 | .tup cs,y,hn,h=>by
  simp only[V,aL] at *;obtain⟨ys,h1,h2⟩:=h;exact⟨ys,h1,VS.move hS cs ys hn h2⟩
 | .fn f first captured,y,hn,h=>by
  simp only[V,aL,kC] at *;obtain⟨xs,ys,h1,h2,h3⟩:=h;exact⟨xs,ys,h1,VS.move hS _ _ hn.1 h2,VS.move hS _ _ hn.2 h3⟩
 | .iface t d,y,hn,h=>by
  simp only[V,aL] at *;obtain⟨x,h1,h2⟩:=h;exact⟨x,h1,V.move hS d x hn h2⟩
 | .e0,y,_,h=>by simpa only[V] using h
 | .any,y,_,h=>by simp only[V]
 | .zs b,y,_,h=>by simpa only[V] using h
theorem VS.move {c c':Ctx}(hS:∀ b,c.S b->c'.S b∧c'.w.heap[b]?=c.w.heap[b]?):∀ (ds:List D) (ys:List Value),aK ds=true->VS c ds ys->VS c' ds ys
 | [],ys,_,h=>h
 | d::ds,ys,hn,h=>by
  simp only[VS,aK,kC] at *;obtain⟨y,ys',h1,h2,h3⟩:=h;exact⟨y,ys',h1,V.move hS d y hn.1 h2,VS.move hS ds ys' hn.2 h3⟩
end
def Ctx.frozen (c:Ctx) (h:aB):Ctx:={ c with S:=λb=>c.S b∨bG c h b }
def Pu (P:Program) (g:FuncId) (ds:List D) (d:D):Prop:=∀ h,AC1 P g ds h d h
end Go.Am
/-
 The abstract machine,part 25: a deferred call in a frame that returns,whose body may fm with a recover: there is nothing to recover.
-/
namespace Go.Am
variable [GT]
section
variable (P:Program) (ti:TI)
def HG (tmps:List D) (o:Oper):Option D:=
 match o.op with
 | .call c=>match c.callee with|.builtin .recover=>some (.v .nilIface)|_=>none
 | .typeAssert x _ t true=>match ev tmps x,ti t with|some (.v .nilIface),some i=>some (.tup [i.zeroD,.v (.bool false)])|_,_=>none
 | _=>none
def iA (ops:Array Oper):List Nat->St->Option St
 | [],s=>some s
 | i::rest,s=>
  match ops[i]? with
  | none=>none
  | some o=>
   match af ops s.tmps o with
   | some true=>
    match HG ti s.tmps o with
    | some d=>iA ops rest ⟨dp s.tmps o.dst d,s.h⟩
    | none=>
     match aop P ti s.tmps (bump s.h 1) s.h.next o with
     | some (d,h')=>iA ops rest ⟨dp s.tmps o.dst d,h'⟩
     | none=>none
   | some false=>iA ops rest ⟨dp s.tmps o.dst aM,s.h⟩
   | none=>none
def ny (f:Nat):Dl:=λg ds h=>
 match P.funcs[g]? with
 | some fn=>
  match fn.body with
  | some (.seq (.region _ ops false) rest)=>
   if fn.name == "runtime.NumGoroutine" then none else
   match iA P ti ops (List.range ops.size) (fm fn ds h) with
   | some s1=>
    match exec P ti (λ_ _ _=>none) true f rest s1 [] with
    | some (.normal,s',[])=>(match gu ti fn s' with|some _=>some s'.h|none=>none)
    | some (.ret,s',[])=>(match gu ti fn s' with|some _=>some s'.h|none=>none)
    | _=>none
   | none=>none
  | _=>none
 | none=>none
end
section
variable {P:Program}{ti:TI}{n:Nat}
theorem qD (T:TOk P ti){t xt:TypeId}{i:eH}(hi:ti t=some i) (c:Ctx):∃ v,(Instr.typeAssert .nilIface xt t true).run P c.w=.ok v c.w∧V c (.tup [i.zeroD,.v (.bool false)]) v:=by
 obtain⟨hu,i',z,h1,_,_,hz,_,hzd,_⟩:=T.ok t i hi;refine⟨.tuple #[z,.bool false],?_,?_⟩
 ·have hzr:(zeroValue t).run P c.w=.ok z c.w:=cR h1 hz c.w;unfold Instr.typeAssert;simp only[Sem.run_bind,run_underlying hu,Result.andThen];cases hx:i.u<;>simp[hzr]
 ·simp only[V];exact⟨[z,.bool false],rfl,VS.cons (bY c _ _ hzd) (VS.cons (by simp[V,c7]) VS.nil)⟩
theorem gV (T:TOk P ti) (ops:Array Oper) (cs:List Frame) (hcs:recoverD cs=none):∀ (l:List Nat) (s s':St) (c:Ctx) (a:Act) (Q:Exit->Act->List Frame->World->Prop),iA P ti ops l s=some s'->Fit c s a ->
  (∀ c' a',Fit c' s' a'->aZ c s.h c' s'.h->(∀ j,j<s.h.next->c'.φ j=c.φ j)->a'.defers=a.defers->Q .normal a' cs c'.w)->wpOpsSIn (WF none) n P ops Q l a cs c.w
 | [],s,s',c,a,Q,hr,hfit,hQ=>by
  simp only[iA,kA] at hr;subst hr;exact hQ c a hfit (aZ.refl _ _) (λ_ _=>rfl) rfl
 | i::l,s,s',c,a,Q,hr,hfit,hQ=>by
  simp only[iA] at hr;simp only[wpOpsSIn];split at hr
  ·simp at hr
  ·rename_i o ho;simp only[ho];refine⟨λ_ _=>trivial,?_⟩;split at hr
   ·rename_i hw;rw[bO hfit.tmps hw,if_pos rfl];split at hr
    ·rename_i d hrec
     have go:∀ v,V c d v->wpOpsSIn (WF none) n P ops Q l (a.put o.dst v) cs c.w:=λv hv=>
      gV T ops cs hcs l _ s' c (a.put o.dst v) Q hr ⟨hfit.rel,bg hfit.tmps hv⟩ λc2 a2 f2 g2 p2 df2=>hQ c2 a2 f2 g2 p2 (by rw[df2];cases o.dst<;>rfl)
     unfold HG at hrec;split at hrec
     ·rename_i cc hop;split at hrec
      ·rename_i hcal;simp only[kA] at hrec;subst hrec
       have hrun:(execOp a.eval o).run P c.w=.ok .recover c.w:=by
        unfold execOp;simp only[hop,resolve,hcal];rfl
       simp only[hrun,hcs];exact go _ (by simp[V,c7])
      ·simp at hrec
     ·rename_i x xt t hop;split at hrec
      ·rename_i ti' hx hti;simp only[kA] at hrec;subst hrec;have hv:=aI hfit.rel.inv hfit.tmps hx;simp only[V] at hv;obtain⟨v,h1,h2⟩:=qD (P:=P) (xt:=xt) T hti c
       have hrun:(execOp a.eval o).run P c.w=.ok (.value v) c.w:=by
        unfold execOp;simp only[hop,hv.2,Sem.run_bind,h1,Result.andThen,Sem.run_pure]
       simp only[hrun];exact go v h2
      ·simp at hrec
     ·simp at hrec
    ·split at hr
     ·rename_i d h' hd;obtain⟨nx,v,c',h1,h2,h3,h4,h5,h6⟩:=tL T hfit.rel.bump (hfit.rel.fresh _ (kP _)) (by simp[bump]) hfit.tmps hd
      have go:∀ v',v'=v->wpOpsSIn (WF none) n P ops Q l (a.put o.dst v') cs c'.w:=λv' hv'=>by
       subst hv';refine gV T ops cs hcs l _ s' c' (a.put o.dst v') Q hr ⟨h4,bg (VS.keep h5.keeps _ _ hfit.tmps) h3⟩ λc2 a2 f2 g2 p2 df2=>?_
       refine hQ c2 a2 f2 (h5.bump.trans g2) (λj hj=>?_) (by rw[df2];cases o.dst<;>rfl);have h1:j<h'.next:=by have:=h5.next;simp only[bump] at this;omega
       rw[p2 j h1,h6 j om]
      rcases h2 with rfl|⟨rfl,rfl⟩
      ·simp only[h1];exact go v rfl
      ·simp only[h1];exact go undef rfl
     ·simp at hr
   ·rename_i hw;rw[bO hfit.tmps hw,if_neg si];exact gV T ops cs hcs l _ s' c (a.put o.dst undef) Q hr ⟨hfit.rel,bg hfit.tmps V.undef⟩ λc2 a2 f2 g2 p2 df2=>hQ c2 a2 f2 g2 p2 (by rw[df2];cases o.dst<;>rfl)
   ·simp at hr
theorem sO (hm:P.follows .mixedOrders=true) (T:TOk P ti) (f:Nat):zT P (ny P ti f):=λg ds h h' hr=>by
 have C0:gm P (λ_ _ _=>none):=λk ds h d h' hx=>by simp at hx
 unfold ny at hr;split at hr
 ·rename_i fn hfn;split at hr
  ·rename_i id ops rest hb;split at hr
   ·simp at hr
   ·rename_i hname;split at hr
    ·rename_i s1 h1
     have key:∀ {e:Exit} {s':St},e=.normal∨e=.ret->exec P ti (λ_ _ _=>none) true f rest s1 []=some (e,s',[])->(match gu ti fn s' with|some _=>some s'.h|none=>none)=some h'->DC1 P g ds h h':=λ{e s'} he hx hres=>by
      split at hres
      ·rename_i d hd;simp only[kA] at hres;subst hres;refine⟨by unfold dK;rw[hfn];simp only[hb,Option.isSome_some,Bool.true_and];simpa using hname,λc vs R hvs n=>?_⟩;refine callsDIn_of_wpSIn hfn hb trivial λc₀ cs hmode=>?_
       have hfit:Fit c (fm fn ds h) { tmps:=vs.toArray++Array.replicate (fn.ntmps-vs.toArray.size) undef,defers:=[] }:=by
        refine⟨R,?_⟩;simp only[fm,Array.toList_append,Array.toList_replicate,List.size_toArray];rw[hvs.length];exact hvs.append (VS.replicate V.undef _)
       have hrec:recoverD (c₀::cs)=none:=by simp[recoverD,hmode]
       have hc0:({ c₀ with mode:=.returning }:Frame)=c₀:=by rw[<-hmode]
       refine wpSIn_seq (wpSIn_region (gV T ops (c₀::cs) hrec _ _ s1 c _ _ h1 hfit λc1 a1 f1 g1 p1 d1=>?_));refine wpSIn_of_wpIn rfl ((fW P ti _ _ _ _ _ _ _ _ _ hx).1.sound (ro:=none) (n:=n) hm T C0 ko (λ_=>rfl) c1 a1 _ f1 (by rw[d1];simp[DRs]) λc2 a2 f2 g2 p2 d2=>?_);simp only[DRs] at d2;obtain⟨v,e1,v1⟩:=dN (P:=P) T f2 hd
       have fin:a2.defers=[]∧∃ u',(c₀::cs)={ c₀ with mode:=u' }::cs∧∃ v,(results fn a2.tmps).run P c2.w=.ok v c2.w∧∃ v_1 c',Ending.returned v=.returned v_1∧u'=.returning∧c'.w=c2.w∧Rel c' s'.h∧aZ c h c' s'.h∧∀ j,j<h.next->c'.φ j=c.φ j:=
        ⟨d2,.returning,by rw[hc0],v,e1,v,c2,rfl,rfl,rfl,f2.rel,g1.trans g2,λj hj=>by
         have:=g1.next
         have hn0:(fm fn ds h).h.next=h.next:=rfl
         rw[p2 j om,p1 j hj]⟩
       rcases he with rfl|rfl
       ·exact fin
       ·exact fin
      ·simp at hres
     split at hr
     ·rename_i hx;exact key (.inl rfl) hx hr
     ·rename_i hx;exact key (.inr rfl) hx hr
     ·simp at hr
    ·simp at hr
  ·simp at hr
 ·simp at hr
end
end Go.Am
/-
 The abstract machine,part 26: rules for walking code over data by hand;tables of contracts.
-/
namespace Go.Am
variable [GT]
abbrev Tab:=List (FuncId×(List D->Option D))
def iK:Tab->FuncId->List D->Option D
 | [],_,_=>none
 | (g,f)::l,g',ds=>if g=g' then f ds else iK l g' ds
def rS (t:Tab):Cl:=λk ds h=>
 match k with
 | .fn g=>(iK t g ds).map (·,h)
 | .yf _=>none
def i8 (P:Program) (t:Tab):Prop:=∀ p∈t,∀ ds d,p.2 ds=some d->Pu P p.1 ds d
theorem i8.get {P:Program}:∀ {t:Tab},i8 P t->∀ {g ds d},iK t g ds=some d->Pu P g ds d
 | [],_,g,ds,d,h=>by simp[iK] at h
 | (g0,f)::l,hok,g,ds,d,h=>by
  simp only[iK] at h;split at h
  ·rename_i e;subst e;exact hok (g0,f) si ds d h
  ·exact i8.get (λp hp=>hok p (by simp[hp])) h
theorem i8.cl {P:Program}{t:Tab}(h:i8 P t):gm P (rS t):=λk ds hp d h' hx=>by
 cases k with
 | yf id=>simp[rS] at hx
 | fn g=>
  simp only[rS,kJ,kB] at hx;obtain⟨d',h1,rfl,rfl⟩:=hx;exact h.get h1 _
theorem i8.nil {P:Program}:i8 P []:=λ_ h=>by simp at h
theorem i8.cons {P:Program}{t:Tab}{g:FuncId}{f:List D->Option D}(h1:∀ ds d,f ds=some d->Pu P g ds d) (h2:i8 P t):i8 P ((g,f)::t):=λp hp=>by
 rcases List.mem_cons.1 hp with rfl|hp
 ·exact h1
 ·exact h2 p hp
open Classical in
noncomputable def eqC:D->D->Bool:=λa b=>decide (a=b)
theorem mI:∀ a b,eqC a b=true->a=b:=λa b h=>by simpa [eqC] using h
def jb (K:St->Prop) (Q:Exit->St->Prop):Exit->St->Prop
 | .normal,s=>K s
 | e,s=>Q e s
def zK (id:Nat) (Q:Exit->St->Prop):Exit->St->Prop
 | .exit i,s=>if i=id then Q .normal s else Q (.exit i) s
 | e,s=>Q e s
section
variable {P:Program}{ti:TI}{t:Tab}{Q:Exit->St->Prop}{s:St}
end
end Go.Am
/-
 The abstract machine,part 27: a region that draws its order and leaves the boxes alone: walked like any other.
-/
namespace Go.Am
variable [GT]
def c6 (P:Program) (ti:TI) (t:Tab) (ops:Array Oper) (h:aB):List Oper->List D->Option (List D)
 | [],tm=>some tm
 | o::l,tm=>
  match af ops tm o with
  | some true=>
   match kind o with
   | .alloc=>none
   | .write=>match bc P tm o with|some (.fn g,ds)=>(match iK t g ds with|some d=>c6 P ti t ops h l (dp tm o.dst d)|none=>none)|_=>none
   | _=>match aop P ti tm h 0 o with|some (d,_)=>c6 P ti t ops h l (dp tm o.dst d)|none=>none
  | some false=>c6 P ti t ops h l (dp tm o.dst aM)
  | none=>none
def isWr (o:Oper):Bool:=match kind o with|.write=>true|_=>false
def nY (ops:Array Oper):Bool:=
 (List.range ops.size).all λj=>(List.range j).all λi=>
  match ops[i]?,ops[j]? with
  | some oi,some oj=>!(isWr oi&&isWr oj) || anc (eE ops.toList []) j i
  | _,_=>true
section
variable {P:Program}{ti:TI}{t:Tab}
theorem qV {m:Nat}{tm:List D}{o:Oper}{d:D}:∀ {l:List (Nat×aB)},(∀ p∈l,cL P ti eqC tm o d p.2=true)->bv P ti eqC m tm o d l=true
 | [],_=>rfl
 | (t,g)::l,h=>by
  simp only[bv,kC,kN];exact⟨h (t,g) si,.inr (qV λp hp=>h p (by simp[hp]))⟩
theorem qa {h:aB}{m:Nat}:∀ {l:List (Nat×Oper×List D×D)},(∀ p∈l,cL P ti eqC p.2.2.1 p.2.1 p.2.2.2 h=true)->gT P ti eqC h m l=true
 | [],_=>rfl
 | (r,o,tm,d)::l,hl=>by
  simp only[gT,kC,kN];exact⟨.inr (hl (r,o,tm,d) si),qa λp hp=>hl p (by simp[hp])⟩
theorem zI {ops:Array Oper}(h:nY ops=true){i j:Nat}{oi oj:Oper}(hi:ops[i]?=some oi) (hj:ops[j]?=some oj) (hlt:i<j) (h1:kind oi=.write) (h2:kind oj=.write):((eE ops.toList []).getD j 0).testBit i=true:=by
 unfold nY at h;rw[kL] at h;have hs:=(Array.getElem?_eq_some_iff.1 hj).1;have:=h j (by simpa using hs)
 rw[kL] at this;have:=this i (by simpa using hlt)
 simpa [hi,hj,isWr,h1,h2,anc] using this
theorem ic {ops:Array Oper}(hc:nY ops=true) (base:Nat) (g:aB):∀ (l:List Oper) (j:Nat) (ds:DS) (tm':List D),(∀ i o,l[i]?=some o->ops[j+i]?=some o)->ds.pend=[]->ds.al=[]->ds.hist≠[] ->
  (∀ p∈ds.hist,p.2=g∧(p.1=0∨(p.1<=j∧∃ o,ops[p.1-1]?=some o∧kind o=.write)))->(∀ p∈ds.rd,cL P ti eqC p.2.2.1 p.2.1 p.2.2.2 g=true) ->
  c6 P ti t ops g l ds.tm=some tm'->∃ ds',dA P ti (rS t) eqC ops base (eE ops.toList []) l j ds=some ds'∧ds'.tm=tm'∧ds'.pend=[]∧ds'.hist≠[]∧∀ p∈ds'.hist,p.2=g
 | [],j,ds,tm',_,h1,_,h3,h4,_,hq=>by
  simp only[c6,kA] at hq;exact⟨ds,rfl,hq,h1,h3,λp hp=>(h4 p hp).1⟩
 | o::l,j,ds,tm',ho,h1,h2,h3,h4,h5,hq=>by
  have hoj:ops[j]?=some o:=by simpa using ho 0 o rfl
  have ho':∀ i o',l[i]?=some o'->ops[j+1+i]?=some o':=λi o' hi=>by
   have:=ho (i+1) o' (by simpa using hi)
   rw[show j+1+i=j+(i+1) from by omega];exact this
  have h4':∀ p∈ds.hist,p.2=g∧(p.1=0∨(p.1<=j+1∧∃ o,ops[p.1-1]?=some o∧kind o=.write)):=λp hp=>⟨(h4 p hp).1,(h4 p hp).2.imp id λ⟨x,y⟩=>⟨by omega,y⟩⟩
  simp only[c6] at hq;simp only[dA,cO];cases hw:af ops ds.tm o with
  | none=>rw[hw] at hq;simp at hq
  | some b=>
   rw[hw] at hq;cases b with
   | false=>
    simp only at hq ⊢;exact ic hc base g l (j+1) { ds with tm:=dp ds.tm o.dst aM } tm' ho' h1 h2 h3 h4' h5 hq
   | true=>
    simp only at hq ⊢;cases hk:kind o with
    | pure=>
     have hkR:bL ops o=.pure:=F5 hk;simp only[hk,hkR] at hq ⊢;split at hq
     ·rename_i d _ ha;rw[rY hk ha ⟨0,[]⟩ 0];exact ic hc base g l (j+1) { ds with tm:=dp ds.tm o.dst d } tm' ho' h1 h2 h3 h4' h5 hq
     ·simp at hq
    | read=>
     have hkR:bL ops o=.read:=F4 hk;simp only[hk,hkR] at hq ⊢;split at hq
     ·rename_i d h0 ha;have hsame:cL P ti eqC ds.tm o d g=true:=by unfold cL;rw[ha];simp[eqC]
      cases hh:ds.hist with
      | nil=>exact absurd hh h3
      | cons p r=>
       obtain⟨pt,pg⟩:=p;have hpg:pg=g:=(h4 (pt,pg) (by rw[hh];simp)).1;subst hpg;simp only[ha];have hro:bv P ti eqC ((eE ops.toList []).getD j 0) ds.tm o d ((pt,pg)::r)=true:=qV λp hp=>by rw[(h4 p (by rw[hh];exact hp)).1];exact hsame
       rw[if_pos hro];refine ic hc base pg l (j+1) _ tm' ho' h1 h2 si (by simp only;rw[<-hh];exact h4') (λp hp=>?_) hq;rcases List.mem_cons.1 hp with rfl|hp
       ·exact hsame
       ·exact h5 p hp
     ·simp at hq
    | alloc=>simp only[hk] at hq;simp at hq
    | write=>
     have hkR:bL ops o=.write:=wl hk;simp only[hk,hkR] at hq ⊢;split at hq
     ·rename_i gf as hac;split at hq
      ·rename_i d hd;cases hh:ds.hist with
       | nil=>exact absurd hh h3
       | cons p r=>
        obtain⟨pt,pg⟩:=p;obtain⟨hpg,hpt⟩:=h4 (pt,pg) (by rw[hh];simp);simp only at hpg hpt;subst hpg
        have htag:(pt == 0 || ((eE ops.toList []).getD j 0).testBit (pt-1))=true:=by
         rcases hpt with h0|⟨hle,o',ho1,ho2⟩
         ·simp[h0]
         ·by_cases h00:pt=0
          ·simp[h00]
          ·rw[zI hc ho1 hoj om ho2 hk];simp
        simp only[htag,if_true,h1,List.filter_nil];have hv:dL base [] pg=pg:=rfl
        have hst:bU P ti (rS t) ds.tm pg (base+j) o=some (d,pg):=by
         unfold bU;simp only[hac,rS,hd,kF]
        simp only[hv,hst];rw[if_pos (qa h5)];refine ic hc base pg l (j+1) _ tm' ho' rfl h2 si (λp hp=>?_) h5 hq;rcases List.mem_cons.1 hp with rfl|hp
        ·exact⟨rfl,.inr ⟨kP _,o,by simpa using hoj,hk⟩⟩
        ·exact h4' p (by rw[hh];exact hp)
      ·simp at hq
     ·simp at hq
theorem yd {ops:Array Oper}(hc:nY ops=true){s:St}{tm':List D}(hq:c6 P ti t ops (bump s.h ops.size) ops.toList s.tmps=some tm'):bp P ti (rS t) eqC ops s=some ⟨tm',bump s.h ops.size⟩:=by
 obtain⟨ds',h1,h2,h3,h4,h5⟩:=ic (P:=P) (ti:=ti) (t:=t) hc s.h.next (bump s.h ops.size) ops.toList 0 ⟨s.tmps,[(0,bump s.h ops.size)],[],[],[]⟩ tm' (λi o hi=>by simpa using hi) rfl rfl si (λp hp=>by simp at hp;subst hp;exact⟨rfl,.inl rfl⟩) (λp hp=>by simp at hp) hq;unfold bp;rw[h1];cases hh:ds'.hist with
 | nil=>exact absurd hh h4
 | cons p r=>
  obtain⟨pt,pg⟩:=p
  have:pg=bump s.h ops.size:=h5 (pt,pg) (by rw[hh];simp)
  subst this;simp only[h3,h2,hh];rfl
end
end Go.Am
/-
 The abstract machine,part 28: walking code over data that is not known: rules,and an evaluation that asks for what it needs.
-/
namespace Go.Am
variable [GT]
abbrev i64 (n:Int):D:=.v (.int .i64 n)
abbrev boo (b:Bool):D:=.v (.bool b)
def rng (k:IntKind) (n:Int):Prop:=k.wrap n=n
def binW (P:Program) (op:BinOp) (t:TypeId) (ox oy:Operand) (a b:D) (K:D->Prop):Prop:=
 match a,b with
 | .v (.int k m),.v (.int k' n)=>
  match op with
  | .lss=>k=k'∧(m<n->K (boo true))∧(¬m<n->K (boo false))
  | .leq=>k=k'∧(m<=n->K (boo true))∧(¬m<=n->K (boo false))
  | .gtr=>k=k'∧(n<m->K (boo true))∧(¬n<m->K (boo false))
  | .geq=>k=k'∧(n<=m->K (boo true))∧(¬n<=m->K (boo false))
  | .eql=>k=k'∧(m=n->K (boo true))∧(¬m=n->K (boo false))
  | .neq=>k=k'∧(m=n->K (boo false))∧(¬m=n->K (boo true))
  | .add=>k=k'∧rng k (m+n)∧K (.v (.int k (m+n)))
  | .sub=>k=k'∧rng k (m-n)∧K (.v (.int k (m-n)))
  | _=>match ba P op t ox oy a b with|some d=>K d|none=>False
 | .str u,.str v=>
  match op with
  | .eql=>(u=v->K (boo true))∧(¬u=v->K (boo false))
  | .neq=>(u=v->K (boo false))∧(¬u=v->K (boo true))
  | _=>match ba P op t ox oy a b with|some d=>K d|none=>False
 | _,_=>match ba P op t ox oy a b with|some d=>K d|none=>False
theorem mP {P:Program}{op:BinOp}{t:TypeId}{ox oy:Operand}{a b:D}{K:D->Prop}(h:binW P op t ox oy a b K):∃ d,ba P op t ox oy a b=some d∧K d:=by
 have fall:(match ba P op t ox oy a b with|some d=>K d|none=>False)->∃ d,ba P op t ox oy a b=some d∧K d:=λh=>by
  split at h
  ·rename_i d hd;exact⟨d,hd,h⟩
  ·exact h.elim
 unfold binW at h;split at h
 ·rename_i k m k' n;have cmp:∀ (op:BinOp) (c:Bool),k=k'->(ba P op t ox oy (.v (.int k m)) (.v (.int k n))=some (boo c))->K (boo c)->∃ d,ba P op t ox oy (.v (.int k m)) (.v (.int k' n))=some d∧K d:=λop c e h1 h2=>by subst e;exact⟨_,h1,h2⟩
  have bin:∀ (op:BinOp) (r:Value),k=k'->(ba P op t ox oy (.v (.int k m)) (.v (.int k n))=some (.v r))->K (.v r)->∃ d,ba P op t ox oy (.v (.int k m)) (.v (.int k' n))=some d∧K d:=λop r e h1 h2=>by subst e;exact⟨_,h1,h2⟩
  have base:∀ (op:BinOp) (q:Sem Value) (r:Value),(∀ a b:Value,a=.int k m->b=.int k n->(do eqGuard op t ox oy a b;binOp op t a b:Sem Value)=(do eqGuard op t ox oy a b;q))->(∀ a b:Value,a=.int k m->b=.int k n->eqGuard op t ox oy a b=pure ())->q=pure r->ofV r=some (.v r)->ba P op t ox oy (.v (.int k m)) (.v (.int k n))=some (.v r):=λop q r h1 h2 h3 h4=>by
   have e0:uI P op t (.v (.int k m)) (.v (.int k n))=none:=rfl;unfold ba;simp only[e0,toV,ru];rw[h1 _ _ rfl rfl,h2 _ _ rfl rfl,h3];exact h4
  have ck:∀ op,(match op with|.lss|.leq|.gtr|.geq|.eql|.neq=>True|_=>False)->binOp op t (.int k m) (.int k n)=Op.intCmp op m n:=λop ho=>by
   cases op<;>simp only at ho<;>simp[binOp]
  have eg:∀ op,eqGuard op t ox oy (.int k m) (.int k n)=pure ():=λop=>by cases op<;>rfl
  have mk:∀ (op:BinOp) (r:Bool),(match op with|.lss|.leq|.gtr|.geq|.eql|.neq=>True|_=>False)->Op.intCmp op m n=pure (.bool r)->ba P op t ox oy (.v (.int k m)) (.v (.int k n))=some (boo r):=λop r ho hc=>
   base op (Op.intCmp op m n) (.bool r) (λa b ha hb=>by subst ha;subst hb;rw[ck op ho]) (λa b ha hb=>by subst ha;subst hb;exact eg op) hc rfl
  split at h
  ·obtain⟨e,h1,h2⟩:=h;by_cases hc:m<n
   ·exact cmp _ true e (mk .lss true trivial (by simp[Op.intCmp,hc])) (h1 hc)
   ·exact cmp _ false e (mk .lss false trivial (by simp[Op.intCmp,hc])) (h2 hc)
  ·obtain⟨e,h1,h2⟩:=h;by_cases hc:m<=n
   ·exact cmp _ true e (mk .leq true trivial (by simp[Op.intCmp,hc])) (h1 hc)
   ·exact cmp _ false e (mk .leq false trivial (by simp[Op.intCmp,hc])) (h2 hc)
  ·obtain⟨e,h1,h2⟩:=h;by_cases hc:n<m
   ·exact cmp _ true e (mk .gtr true trivial (by simp[Op.intCmp,hc])) (h1 hc)
   ·exact cmp _ false e (mk .gtr false trivial (by simp[Op.intCmp,hc])) (h2 hc)
  ·obtain⟨e,h1,h2⟩:=h;by_cases hc:n<=m
   ·exact cmp _ true e (mk .geq true trivial (by simp[Op.intCmp,hc])) (h1 hc)
   ·exact cmp _ false e (mk .geq false trivial (by simp[Op.intCmp,hc])) (h2 hc)
  ·obtain⟨e,h1,h2⟩:=h;by_cases hc:m=n
   ·exact cmp _ true e (mk .eql true trivial (by simp[Op.intCmp,hc])) (h1 hc)
   ·exact cmp _ false e (mk .eql false trivial (by simp only[Op.intCmp];rw[beq_eq_false_iff_ne.2 hc])) (h2 hc)
  ·obtain⟨e,h1,h2⟩:=h;by_cases hc:m=n
   ·exact cmp _ false e (mk .neq false trivial (by simp[Op.intCmp,hc])) (h1 hc)
   ·exact cmp _ true e (mk .neq true trivial (by simp only[Op.intCmp];rw[bne_iff_ne.2 hc])) (h2 hc)
  ·obtain⟨e,h1,h2⟩:=h;refine bin _ (.int k (m+n)) e (base .add (pure (.int k (m+n))) _ (λa b ha hb=>?_) (λa b ha hb=>by subst ha;subst hb;rfl) rfl rfl) h2;subst ha;subst hb;simp[binOp,Op.intArith,show k.wrap (m+n)=m+n from h1]
  ·obtain⟨e,h1,h2⟩:=h;refine bin _ (.int k (m-n)) e (base .sub (pure (.int k (m-n))) _ (λa b ha hb=>?_) (λa b ha hb=>by subst ha;subst hb;rfl) rfl rfl) h2;subst ha;subst hb;simp[binOp,Op.intArith,show k.wrap (m-n)=m-n from h1]
  ·exact fall h
 ·rename_i u v;split at h
  ·by_cases hc:u=v
   ·exact⟨boo true,by simp[ba,fv,hc],h.1 hc⟩
   ·exact⟨boo false,by simp[ba,fv,hc],h.2 hc⟩
  ·by_cases hc:u=v
   ·exact⟨boo false,by simp[ba,fv,hc],h.1 hc⟩
   ·exact⟨boo true,by simp[ba,fv,hc],h.2 hc⟩
  ·exact fall h
 ·exact fall h
section
variable {P:Program}{ti:TI}
end
end Go.Am
/-
 The abstract machine,part 29: walking code over data that is not known: the rules.
-/
namespace Go.Am
variable [GT]
def SW (P:Program) (code:Code) (Q:Exit->St->Prop) (s:St):Prop:=
 ∀ (c:Ctx) (a:Act) (R:Exit->Act->World->Prop),Fit c s a->(∀ e s' c' a',Q e s'->Fit c' s' a'->aZ c s.h c' s'.h->(∀ j,j<s.h.next->c'.φ j=c.φ j)->a'.defers=a.defers->R e a' c'.w)->code.wpIn (WF none) 0 P R a c.w
section
variable {P:Program}{ti:TI}{Q:Exit->St->Prop}{s:St}
theorem SW.skip (h:Q .normal s):SW P .skip Q s:=λc a _ hf hR=>wpIn_skip (hR _ s c a h hf (aZ.refl _ _) (λ_ _=>rfl) rfl)
theorem SW.exit {id:Nat}(h:Q (.exit id) s):SW P (.exit id) Q s:=λc a _ hf hR=>wpIn_exit (hR _ s c a h hf (aZ.refl _ _) (λ_ _=>rfl) rfl)
theorem SW.ret (h:Q .ret s):SW P .ret Q s:=λc a _ hf hR=>wpIn_ret (hR _ s c a h hf (aZ.refl _ _) (λ_ _=>rfl) rfl)
end
end Go.Am
/-
 The abstract machine,part 30: walking a region that draws its order over data that is not known.
-/
namespace Go.Am
variable [GT]
abbrev fA:=List (FuncId×List D×D)
open Classical in
noncomputable def lkM:fA->FuncId->List D->Option D
 | [],_,_=>none
 | (g,as,d)::m,g',ds=>if g=g'∧as=ds then some d else lkM m g' ds
noncomputable def clM (m:fA):Cl:=λk ds h=>
 match k with
 | .fn g=>(lkM m g ds).map (·,h)
 | .yf _=>none
def rp (m:fA):Prop:=∀ g ds d d',(g,ds,d)∈m->(g,ds,d')∈m->d=d'
theorem nF:∀ {m:fA}{g:FuncId}{ds:List D}{d:D},lkM m g ds=some d->(g,ds,d)∈m
 | [],_,_,_,h=>by simp[lkM] at h
 | (g0,as,d0)::m,g,ds,d,h=>by
  simp only[lkM] at h;split at h
  ·rename_i e;obtain⟨rfl,rfl⟩:=e;simp only[kA] at h;subst h;simp
  ·exact List.mem_cons_of_mem _ (nF h)
theorem pW:∀ {m:fA},rp m->∀ {g:FuncId}{ds:List D}{d:D},(g,ds,d)∈m->lkM m g ds=some d
 | [],_,_,_,_,h=>by simp at h
 | (g0,as,d0)::m,hF,g,ds,d,h=>by
  simp only[lkM];split
  ·rename_i e;obtain⟨rfl,rfl⟩:=e;rw[hF g0 as d0 d si h]
  ·rename_i hne;rcases List.mem_cons.1 h with h|h
   ·simp only[kB] at h;exact absurd ⟨h.1.symm,h.2.1.symm⟩ hne
   ·exact pW (λg ds d d' h1 h2=>hF g ds d d' (List.mem_cons_of_mem _ h1) (List.mem_cons_of_mem _ h2)) h
section
variable (P:Program) (ti:TI)
end
section
variable {P:Program}{ti:TI}
theorem eX {tm:List D}{o:Oper}{d:D}{g h':aB}(h:aop P ti tm g 0 o=some (d,h')):cL P ti eqC tm o d g=true:=by unfold cL;rw[h];simp[eqC]
end
end Go.Am
