/-
  Parts of the example of layer 57, run: the forms and the streams of zero data.
-/
import Derived.Test.YticpeeooobajgaaGreatDoorXO
import Derived.Test.YticpeeooobajgaaGreatDoorXY
set_option linter.unusedSectionVars false
namespace Go.Proofs.YticpeeooobajgaaGreatDoor
open Go Go.Am Classical
set_option maxRecDepth 100000
set_option linter.unusedVariables false
noncomputable def ifO {α:Type}(b:Bool) (x y:Option α):Option α:=match b with|true=>x|false=>y
noncomputable def spL (g:FuncId) (ds:List D):List (FuncId×List D×D)->Option D
 | []=>none
 | (f,es,d)::t=>ifO (Nat.beq f g) (ifO (mq es ds) (some d) (spL g ds t)) (spL g ds t)
theorem spL_ok {P:Program}{t:List (FuncId×List D×D)}(h:∀ e∈t,Pu P e.1 e.2.1 e.2.2):qO P (λg ds=>spL g ds t):=by
 intro g ds d
 induction t with
 | nil=>intro hd;cases hd
 | cons e t ih=>
  intro hd;have ih:=ih λe he=>h e (List.mem_cons_of_mem _ he)
  obtain⟨f,es,d0⟩:=e;simp only[spL,ifO] at hd;cases h1:Nat.beq f g with
  | false=>rw[h1] at hd;exact ih hd
  | true=>
   rw[h1] at hd;simp only at hd;cases h2:mq es ds with
   | false=>rw[h2] at hd;exact ih hd
   | true=>
    rw[h2] at hd;injection hd with hd
    have e1:=Nat.eq_of_beq_eq_true h1;have e2:=fa _ _ h2;have:=h _ (List.mem_cons_self)
    simp only at this;rw[<-e1,<-e2,<-hd];exact this
noncomputable def T57:List (FuncId×List D×D):=[(162,[zN],rU j4),
 (83,[ckD 1 false (dJ j4),aT],i64 1),(83,[ckD 1 false (dJ j4),aE [1,2]],i64 1),
 (83,[ckD 2 false aT,aT],i64 1),(83,[ckD 2 false aT,aE [1,2]],i64 1),
 (83,[ckD 3 true (dJ j4),aT],i64 1),(83,[ckD 3 true (dJ j4),aE [1,2]],i64 1),
 (83,[ckD 4 true aT,aT],i64 1),(83,[ckD 4 true aT,aE [1,2]],i64 1)]
theorem sY:qO Tryz.prog (λg ds=>spL g ds T57):=spL_ok (by
 unfold T57;simp only[List.forall_mem_cons]
 exact⟨snd0,al10,al11,al20,al21,al30,al31,al40,al41,by simp⟩)
theorem nrm0:Pu Tryz.prog 12 [zN,aT] (i64 12):=Pu.of_y (sp:=λg ds=>spL g ds T57) aA T0 sY (f:=60) (by kernel_rfl) (by kernel_rfl)
def argB (h:HT) (d d':D):Bool:=match d,d' with
 | .ptr id 0,.iptr cs'=>(match h.get id with|some (.cells cs _)=>jL h 100000 cs cs'|_=>false)
 | d,d'=>tI h 100000 d d'
def mG (h:HT):List D->List D->Bool
 | [],[]=>true
 | d::ds,d' :: ds'=>argB h d d' && mG h ds ds'
 | _,_=>false
theorem C6 {h:HT}{m:Nat}{d d':D}(hs:argB h d d'=true):Rd (h.heap m) (λ_=>true) (λ_=>none) d d':=by
 unfold argB at hs;split at hs
 ·split at hs
  ·rename_i hg;exact .frzp rfl (by rw[HT.heap_get];exact hg) (by rw[List.drop_zero];exact gg _ _ _ hs)
  ·cases hs
 ·exact lV _ _ _ hs
theorem pZ {h:HT}{m:Nat}:∀ {ds ds':List D},mG h ds ds'=true->Rds (h.heap m) (λ_=>true) (λ_=>none) ds ds'
 | [],[],_=>.nil
 | d::ds,d' :: ds',hs=>by
  simp only[mG,kC] at hs;exact .cons (C6 hs.1) (pZ hs.2)
 | [],_::_,hs=>by simp[mG] at hs
 | _::_,[],hs=>by simp[mG] at hs
noncomputable def brL (g:FuncId) (ds:List D) (h:HT):List (FuncId×List D×Value)->Option Value
 | []=>none
 | (f,es,x)::t=>ifO (Nat.beq f g) (ifO (mG h ds es) (some x) (brL g ds h t)) (brL g ds h t)
theorem BU {P:Program}{g:FuncId}{ds:List D}{h:HT}{m:Nat}{x:Value}:∀ {t:List (FuncId×List D×Value)},(∀ e∈t,Pu P e.1 e.2.1 (.v e.2.2))->brL g ds h t=some x->AC1 P g ds (h.heap m) (.v x) (h.heap m)
 | [],_,hs=>by cases hs
 | (f,es,y)::t,ht,hs=>by
  have ih:=λhs=>BU (m:=m) (λe he=>ht e (List.mem_cons_of_mem _ he)) (show brL g ds h t=some x from hs)
  simp only[brL,ifO] at hs;cases h1:Nat.beq f g with
  | false=>rw[h1] at hs;exact ih hs
  | true=>
   rw[h1] at hs;simp only at hs;cases h2:mG h ds es with
   | false=>rw[h2] at hs;exact ih hs
   | true=>
    rw[h2] at hs;injection hs with hs
    have e1:=Nat.eq_of_beq_eq_true h1;have:=ht _ (List.mem_cons_self)
    simp only at this;rw[<-e1,<-hs];exact AC1.borrow (pZ h2) this
noncomputable def gvL (g:FuncId) (ds:List D) (h:HT):List (FuncId×List D×D)->Option D
 | []=>none
 | (f,es,x)::t=>ifO (Nat.beq f g) (ifO (mG h ds es) (some x) (gvL g ds h t)) (gvL g ds h t)
theorem A0 {P:Program}{g:FuncId}{ds:List D}{h:HT}{m:Nat}{x:D}:∀ {t:List (FuncId×List D×D)},(∀ e∈t,Pu P e.1 e.2.1 e.2.2)->gvL g ds h t=some x->AC1 P g ds (h.heap m) x (HT.emp.heap m)
 | [],_,hs=>by cases hs
 | (f,es,y)::t,ht,hs=>by
  have ih:=λhs=>A0 (m:=m) (λe he=>ht e (List.mem_cons_of_mem _ he)) (show gvL g ds h t=some x from hs)
  simp only[gvL,ifO] at hs;cases h1:Nat.beq f g with
  | false=>rw[h1] at hs;exact ih hs
  | true=>
   rw[h1] at hs;simp only at hs;cases h2:mG h ds es with
   | false=>rw[h2] at hs;exact ih hs
   | true=>
    rw[h2] at hs;injection hs with hs
    have e1:=Nat.eq_of_beq_eq_true h1;have:=ht _ (List.mem_cons_self)
    simp only at this;rw[<-e1,<-hs];exact AC1.give (pZ h2) this
noncomputable def rH (P:Program) (ti:TI) (sp:FuncId->List D->Option D) (t:List (FuncId×List D×Value)) (u:List (FuncId×List D×D)) (f:Nat):XC:=
 Nat.rec (motive:=λ_=>XC) (λ_ _ _ _ _=>false) (λ_ ih k ds h nx K=>
  match k with
  | .fn g=>(match sp g ds with|some d=>K d h (nx+1)|none=>(match brL g ds h t with|some x=>K (.v x) h (nx+1)|none=>(match gvL g ds h u with|some d=>K d .emp (nx+1)|none=>xa P ti ih g ds h nx K)))
  | .yf id=>i8 P ti ih id ds h nx K) f
theorem mK {P:Program}{ti:TI}{sp:FuncId->List D->Option D}{t:List (FuncId×List D×Value)}{u:List (FuncId×List D×D)}(hm:P.follows .mixedOrders=true) (T:TOk P ti) (S:qO P sp) (B:∀ e∈t,Pu P e.1 e.2.1 (.v e.2.2)) (U:∀ e∈u,Pu P e.1 e.2.1 e.2.2):∀ f,XOk P (rH P ti sp t u f)
 | 0=>λk ds h nx K hs=>by cases hs
 | f+1=>λk ds h nx K hs=>by
  cases k with
  | yf id=>exact mH hm T (mK hm T S B U f) (show i8 P ti (rH P ti sp t u f) id ds h nx K=true from hs)
  | fn g=>
   replace hs:(match sp g ds with|some d=>K d h (nx+1)|none=>(match brL g ds h t with|some x=>K (.v x) h (nx+1)|none=>(match gvL g ds h u with|some d=>K d .emp (nx+1)|none=>xa P ti (rH P ti sp t u f) g ds h nx K)))=true:=hs
   split at hs
   ·rename_i d hd;exact⟨d,h,nx+1,AC1.bump (S g ds d hd _),hs⟩
   ·split at hs
    ·rename_i x hx;exact⟨.v x,h,nx+1,AC1.bump (BU B hx),hs⟩
    ·split at hs
     ·rename_i x hx;exact⟨x,.emp,nx+1,AC1.bump (A0 U hx),hs⟩
     ·exact wL hm T (mK hm T S B U f) hs
theorem Pu.of_b {P:Program}{ti:TI}{sp:FuncId->List D->Option D}{t:List (FuncId×List D×Value)}{u:List (FuncId×List D×D)}(hm:P.follows .mixedOrders=true) (T:TOk P ti) (S:qO P sp) (B:∀ e∈t,Pu P e.1 e.2.1 (.v e.2.2)) (U:∀ e∈u,Pu P e.1 e.2.1 e.2.2){f:Nat}{g:FuncId}{ds:List D}{d:D}(hn:aJ ds=true) (hr:rH P ti sp t u f (.fn g) ds .emp 0 (λd1 h1 _=>tI h1 100000 d1 d)=true):Pu P g ds d:=by
 obtain⟨d1,h1,nx1,k1,k2⟩:=mK hm T S B U f _ _ _ _ _ hr;exact Pu.of_ac hn k1 (lV _ _ _ k2)
abbrev BP (f:Int):List D:=[.iptr [aT,aT,aT],.iptr [i64 f],.iptr [aE [1,2]],.iptr [i64 1],.iptr [aE [1,2]]]
noncomputable def U57:List (FuncId×List D×D):=[(35,[.imm 2 [aE [1],aE [2]]],aE [1,2])]
theorem U57_ok:∀ e∈U57,Pu Tryz.prog e.1 e.2.1 e.2.2:=by
 unfold U57;simp only[List.forall_mem_cons];exact⟨Bo (a:=[1]) (b:=[2]) si,by simp⟩
theorem B0_ok:∀ e∈([]:List (FuncId×List D×Value)),Pu Tryz.prog e.1 e.2.1 (.v e.2.2):=by simp
theorem Cz (f:Int) (hf:f=1∨f=2∨f=3∨f=4):Pu Tryz.prog 34 (BP f) (boo true):=by
 rcases hf with rfl|rfl|rfl|rfl
 all_goals exact Pu.of_b (t:=[]) (u:=U57) (sp:=λg ds=>spL g ds T57) aA T0 sY B0_ok U57_ok (f:=60) (by kernel_rfl) (by kernel_rfl)
noncomputable def B57:List (FuncId×List D×Value):=[(34,BP 1,.bool true),(34,BP 2,.bool true),(34,BP 3,.bool true),(34,BP 4,.bool true)]
theorem B57_ok:∀ e∈B57,Pu Tryz.prog e.1 e.2.1 (.v e.2.2):=by
 unfold B57;simp only[List.forall_mem_cons];exact⟨Cz 1 om,Cz 2 om,Cz 3 om,Cz 4 om,by simp⟩
theorem nrm1:Pu Tryz.prog 12 [zN,aE [1,2]] (i64 16):=Pu.of_b (t:=B57) (u:=[]) (sp:=λg ds=>spL g ds T57) aA T0 sY B57_ok si (f:=60) (by kernel_rfl) (by kernel_rfl)
end Go.Proofs.YticpeeooobajgaaGreatDoor
namespace Go.Am
set_option maxRecDepth 100000
set_option linter.unusedVariables false
variable [GT]
section
variable {F:Fence}{n:Nat}{P:Program}{ops pre:Array Oper}{o:Oper}{Q:Exit->Act->World->Prop}
theorem wpIn_Q {x:Oper}{a:Act}{w:World}{K:Act->World->Prop}{Q':Exit->Act->World->Prop}(hp:∀ e a w,e≠.normal->Q' e a w->Q e a w) (h:x.wpIn F n P a w K Q'):x.wpIn F n P a w K Q:=by
 unfold Oper.wpIn at *;refine⟨h.1,?_⟩;have hh:=h.2;have hl:LetsOut Q'->LetsOut Q:=λ⟨a,w,h⟩=>⟨a,w,hp _ _ _ si h⟩
 generalize(x.semAt F.round a.eval).run P w=r at *;cases r with
 | ok x w'=>
  cases x<;>simp only[Oper.uponIn] at hh ⊢ <;>
   first
    | exact hh
    | exact⟨hh.1,CallsIn.mono hh.2 (λe w'' he=>by cases e<;>first|exact he|exact hp _ _ _ si he|exact hl he)⟩
    | exact⟨hh.1,RowsIn.mono hh.2 (λ_ _ he=>he)⟩
    | exact⟨hh.1,RoundIn.mono hh.2 (λe w'' he=>by cases e<;>first|exact he|exact hp _ _ _ si he|exact hl he)⟩
 | halt x w'=>cases x<;>simp only[Oper.uponIn] at hh ⊢<;>first|exact hp _ _ _ si hh|exact hh
def De (F:Fence) (n:Nat) (P:Program) (ops:Array Oper) (m:Nat) (Q:Exit->Act->World->Prop):Exit->Act->World->Prop:=λe a w=>(e=.normal->wpOpIn F n P ops Q m (Q .normal) a w)∧(e≠.normal->Q e a w)
theorem uq (hops:ops=pre.push o) (hg:∀ (i:Nat) (x:Oper),pre[i]?=some x->x.guard=none){i:Nat}(hi:i<pre.size){K:Act->World->Prop}{a:Act}{w:World}(h:wpOpIn F n P pre (De F n P ops pre.size Q) i K a w):wpOpIn F n P ops Q i K a w:=by
 unfold wpOpIn at *;have e:ops[i]?=pre[i]?:=by rw[hops,Array.getElem?_push];rw[if_neg om]
 rw[e];rw[Array.getElem?_eq_getElem hi] at h ⊢;have hgi:=hg i pre[i] (Array.getElem?_eq_getElem hi);have hw:∀ z,Region.wanted pre[i] z=true:=λz=>by unfold Region.wanted;rw[hgi]
 simp only[hw,if_true] at h ⊢;exact wpIn_Q (λe a w he hq=>hq.2 he) h
theorem DB (hok:bZ ops=true) (hops:ops=pre.push o) (hg:∀ (i:Nat) (x:Oper),pre[i]?=some x->x.guard=none) (hanc:∀ i,i<pre.size->anc (MM ops) pre.size i=true):∀ (fuel:Nat) (listed:Array Bool) (a:Act) (w:World),
  listed.size=pre.size->jk ops (λi=>listed.getD i false=true)->listed.toList.count false<=fuel->wpAnyIn F n P .any pre (De F n P ops pre.size Q) fuel listed a w->wpAnyIn F n P .any ops Q (fuel+1) (listed.push false) a w:=by
 have hm:ops[pre.size]?=some o:=by rw[hops];simp
 have hget:∀ {listed:Array Bool} {i:Nat},listed.size=pre.size->(listed.push false).getD i false=listed.getD i false:=λ{listed i} hs=>by
  simp only[Array.getD_eq_getD_getElem?,Array.getElem?_push];split
  ·rename_i h;rw[Array.getElem?_eq_none om];rfl
  ·rfl
 have fin:∀ (f:Nat) (listed:Array Bool) (a:Act) (w:World),listed.size=pre.size->(∀ i,i<pre.size->listed.getD i false=true)->wpOpIn F n P ops Q pre.size (Q .normal) a w->wpAnyIn F n P .any ops Q (f+1) (listed.push false) a w:=λf listed a w hs hall h=>by
  refine⟨λh0=>?_,λi hi=>?_⟩
  ·exfalso
   have:pre.size∈Region.ready .any ops (listed.push false):=bW.2 ⟨o,hm,by rw[Array.getD_eq_getD_getElem?,Array.getElem?_push,if_pos hs.symm];rfl,λe he hb=>by rw[hget hs];exact hall _ (ld hok hm he hb)⟩
   rw[h0] at this;cases this
  ·obtain⟨x,hx,h1,h2⟩:=bW.1 hi;have hlt:=(Array.getElem?_eq_some_iff.1 hx).1;rw[hops] at hlt;simp only[Array.size_push] at hlt;by_cases him:i=pre.size
   ·subst him;refine wpOpIn_mono (λa w hQ=>wpAnyIn_done (List.eq_nil_iff_forall_not_mem.2 λj hj=>?_) hQ f) h;obtain⟨y,hy,g1,_⟩:=bW.1 hj;have hjlt:=(Array.getElem?_eq_some_iff.1 hy).1;rw[hops] at hjlt;simp only[Array.size_push] at hjlt
    have hgj:((listed.push false).setIfInBounds pre.size true)[j]?=some false:=by
     rw[Array.getD_eq_getD_getElem?] at g1
     have:j<((listed.push false).setIfInBounds pre.size true).size:=by simp;omega
     rw[Array.getElem?_eq_getElem this] at g1 ⊢;simpa using g1
    rw[Array.getElem?_setIfInBounds] at hgj;split at hgj
    ·split at hgj<;>simp at hgj
    ·rename_i hne;have:=hall j om
     rw[<-hget hs,Array.getD_eq_getD_getElem?,hgj] at this;cases this
   ·have:=hall i om
    rw[<-hget hs,Array.getD_eq_getD_getElem?] at this;rw[Array.getD_eq_getD_getElem?] at h1;have hsz:i<(listed.push false).size:=by simp;omega
    rw[Array.getElem?_eq_getElem hsz] at this h1;simp only[Option.getD_some] at this h1;rw[h1] at this;cases this
 intro fuel
 induction fuel with
 | zero=>
  intro listed a w hs hc hcnt h;refine fin 0 listed a w hs (λi hi=>?_) (h.2.1 rfl);have h0:listed.toList.count false=0:=by omega
  rw[List.count_eq_zero] at h0;rw[Array.getD_eq_getD_getElem?,Array.getElem?_eq_getElem om];simp only[Option.getD_some];cases hx:listed[i] with
  | true=>rfl
  | false=>exact absurd (by rw[<-hx];exact Array.getElem_mem_toList _) h0
 | succ fuel ih=>
  intro listed a w hs hc hcnt h;by_cases hall:∀ i,i<pre.size->listed.getD i false=true
  ·refine fin _ listed a w hs hall ((h.1 (List.eq_nil_iff_forall_not_mem.2 λj hj=>?_)).1 rfl);obtain⟨y,hy,g1,_⟩:=bW.1 hj;have hjlt:=(Array.getElem?_eq_some_iff.1 hy).1;have:=hall j hjlt
   rw[Array.getD_eq_getD_getElem?,Array.getElem?_eq_getElem om] at this g1;simp only[Option.getD_some] at this g1;rw[g1] at this;cases this
  ·refine⟨λh0=>?_,λi hi=>?_⟩
   ·exfalso;apply hall;intro i
    induction i using Nat.strongRecOn with
    | _ i ihs=>
     intro hi;cases hx:listed.getD i false with
     | true=>rfl
     | false=>
      exfalso;have e:ops[i]?=some pre[i]:=by rw[hops,Array.getElem?_push,if_neg om,Array.getElem?_eq_getElem hi]
      have:i∈Region.ready .any ops (listed.push false):=bW.2 ⟨pre[i],e,by
       rw[Array.getD_eq_getD_getElem?,Array.getElem?_push,if_neg om];rw[Array.getD_eq_getD_getElem?] at hx;rw[Array.getElem?_eq_getElem om] at hx ⊢;simpa using hx,λe' he hb=>by
       have:=ld hok e he hb
       rw[hget hs];exact ihs _ this om⟩
      rw[h0] at this;cases this
   ·obtain⟨x,hx,h1,h2⟩:=bW.1 hi;have hlt:=(Array.getElem?_eq_some_iff.1 hx).1;rw[hops] at hlt;simp only[Array.size_push] at hlt
    have hne:i≠pre.size:=λe=>by
     subst e
     exact hall λj hj=>cr hok hc pre.size j (λo' e ho' he hb=>by
      rw[hx] at ho';injection ho' with ho';subst ho'
      have:=h2 e he hb
      rwa [hget hs] at this) (hanc j hj)
    have hil:i<pre.size:=by omega
    have e:ops[i]?=pre[i]?:=by rw[hops,Array.getElem?_push];rw[if_neg om]
    have h1':listed[i]?=some false:=by
     rw[Array.getD_eq_getD_getElem?,Array.getElem?_push,if_neg om] at h1;rw[Array.getElem?_eq_getElem om] at h1 ⊢;simpa using h1
    have hr:i∈Region.ready .any pre listed:=bW.2 ⟨x,by rw[<-e];exact hx,by rw[Array.getD_eq_getD_getElem?,h1'];rfl,λe' he hb=>by rw[<-hget hs];exact h2 e' he hb⟩;refine wpOpIn_mono (λa w hw=>?_) (uq hops hg hil (h.2 i hr))
    have e2:(listed.push false).setIfInBounds i true=(listed.setIfInBounds i true).push false:=by
     apply Array.ext';rw[Array.toList_setIfInBounds,Array.toList_push,Array.toList_push,Array.toList_setIfInBounds,List.set_append_left _ _ (by simpa [hs] using hil)]
    rw[e2];refine ih _ a w (by simpa using hs) (λj o' e' hj ho' he hb=>?_) ?_ hw
    ·simp only[Array.getD_eq_getD_getElem?,Array.getElem?_setIfInBounds] at hj ⊢
     have hlist:listed.getD e'.on false=true->(if i=e'.on then if i<listed.size then some true else none else listed[e'.on]?).getD false=true:=λhz=>by
      split
      ·rw[if_pos om];rfl
      ·rwa [Array.getD_eq_getD_getElem?] at hz
     apply hlist;split at hj
     ·rename_i hij;subst hij;rw[hx] at ho';injection ho' with ho';subst ho'
      have:=h2 e' he hb
      rwa [hget hs] at this
     ·exact hc j o' e' (by show listed.getD j false=true;rw[Array.getD_eq_getD_getElem?];exact hj) ho' he hb
    ·have hl:i<listed.toList.length:=by simpa [hs] using hil
     rw[Array.toList_setIfInBounds];unfold List.count at hcnt ⊢;rw[List.countP_set hl]
     have:listed.toList[i]=false:=by
      rw[Array.getElem?_eq_getElem om] at h1';simpa using h1'
     rw[this,if_pos (show(false == false)=true from rfl),if_neg (show ¬(true == false)=true by decide)];have:=List.count_pos_iff.2 (show false∈listed.toList by rw[<-this];exact kM _)
     unfold List.count at this;omega
end
def DY (ops:Array Oper):Bool:=bZ ops&&(ops.pop.toList.all (λx=>x.guard.isNone)&&(List.range ops.pop.size).all λi=>anc (db ops.toList []) ops.pop.size i)
noncomputable def DQ (P:Program) (ti:TI) (xc:XC) (n:Nat) (ops:Array Oper) (o:Oper) (cc:Call) (f:Operand) (t:Tr) (h:HT) (nx:Nat) (df:List DE) (K:KC):Bool:=
 ifB (DY ops) (qS P ti xc n ops.pop t h nx λt h nx=>xev n t f λd=>
  match d with
  | .fn (.func g) first cap=>n9 n t cc.args.toList λus=>i9 n t o.dst aP λt'=>K .normal t' h nx (.call g (first++us++cap)::df)
  | _=>false) false
section
variable {P:Program}{ti:TI}{xc:XC}{n k:Nat}
theorem zE (hm:P.follows .mixedOrders=true) (T:TOk P ti) (X:XOk P xc) (hn:n<=2 ^ k){id:Nat}{ops:Array Oper}{o:Oper}{cc:Call}{f:Operand}(ho:pS ops=some (o,cc,f)){t:Tr}{h:HT}{nx:Nat}{df:List DE}{K:KC}(hs:DQ P ti xc n ops o cc f t h nx df K=true) (hp:t.perf k) :
  ∃ e t' h' nx' df',K e t' h' nx' df'=true∧t'.perf k∧CW P true (.region id ops true) (sT n t h nx) df e (sT n t' h' nx') df':=by
 obtain⟨hops,hop,hcal,hg⟩:=uQ ho
 have hpush:ops=ops.pop.push o:=by
  apply Array.ext';rw[Array.toList_push,Array.toList_pop];exact hops
 rcases aR hs with⟨hc,hs⟩|⟨_,h0⟩
 ·unfold DY at hc;simp only[kC,kL,List.mem_range] at hc;obtain⟨hok,hgd,hanc⟩:=hc;obtain⟨hok1,cl,s',t1,h1,nx1,C,hr,e1,e2,k2,k1⟩:=mI X hn hs hp;obtain⟨d,e3,k1⟩:=ae k1;split at k1
  ·rename_i g first cap;obtain⟨us,e4,k1⟩:=eK k1;obtain⟨t',e5,e6,e7⟩:=dn k2 hn k1;refine⟨.normal,t',h1,nx1,_,e7,e6,λro m hro c a Q hf hd hQ=>?_⟩;have hr0:=hro rfl;subst hr0;refine wpIn_region_any hm ?_;have hsz:ops.size=ops.pop.size+1:=by rw[congrArg Array.size hpush];simp
   have hz:Array.replicate ops.size false=(Array.replicate ops.pop.size false).push false:=by rw[hsz];rw[Array.replicate_succ]
   rw[hz,hsz];refine DB (F:=WF none) hok hpush (λi x hx=>?_) (λi hi=>hanc i hi) _ _ a _ si (λj o' e' hj=>?_) si ?_
   ·have:=hgd x (Array.mem_toList_iff.2 (Array.mem_of_getElem? hx))
    simpa using this
   ·exfalso;simp only[Array.getD_eq_getD_getElem?,Array.getElem?_replicate] at hj;split at hj<;>cases hj
   refine je T C iU hok1 hr hf λc' a' f1 g1 p1 d1=>⟨λ_=>?_,λh=>absurd rfl h⟩
   have hfit:Fit c' (sT n t1 h1 nx1) a':=⟨f1.rel.congr e2,by have:=f1.tmps;rw[e1] at this;exact this⟩
   have hm':ops[ops.pop.size]?=some o:=by
    have hq:(ops.pop.push o)[ops.pop.size]?=some o:=by rw[Array.getElem?_push,if_pos rfl]
    rwa [<-hpush] at hq
   have hw:∀ z,Region.wanted o z=true:=λz=>by unfold Region.wanted;rw[hg]
   have hv:=aF hfit.rel.inv hfit.tmps e3;simp only[V] at hv;obtain⟨xs,ys,hv,v1,v2⟩:=hv;have hargs:=cA hfit.rel.inv hfit.tmps e4
   have hrun:(o.semAt none a'.eval).run P c'.w=.ok (.defer ⟨.fn (.func g) ys.toArray,(xs++cc.args.toList.map a'.eval).toArray⟩) c'.w:=by
    show(execOp a'.eval o).run P c'.w=_;unfold execOp;simp only[hop,resolve,hcal,Sem.run_bind,hv,Deferred.ofValue,Sem.run_pure,Result.andThen];congr 3;apply Array.ext';simp
   unfold wpOpIn;rw[hm'];simp only[hw,if_true];refine⟨λ_ _=>trivial,?_⟩;show o.uponIn (WF none) m P a' _ Q ((o.semAt none a'.eval).run P c'.w);rw[hrun];have hput:=bc (a:={ a' with defers:=⟨.fn (.func g) ys.toArray,(xs++cc.args.toList.map a'.eval).toArray⟩::a'.defers }) (dst:=o.dst) hfit.tmps (V.undef (c:=c'));rw[show dg (sT n t1 h1 nx1).tmps o.dst aP=tmL n t' from e5] at hput;refine hQ c' _ ⟨hfit.rel,hput⟩ (g1.congr (Heq.refl _) e2) p1 ?_
   have:({ a' with defers:=⟨.fn (.func g) ys.toArray,(xs++cc.args.toList.map a'.eval).toArray⟩::a'.defers }:Act).put o.dst undef={ (a'.put o.dst undef) with defers:=⟨.fn (.func g) ys.toArray,(xs++cc.args.toList.map a'.eval).toArray⟩::a'.defers }:=by cases o.dst<;>rfl
   rw[this];exact⟨_,_,rfl,⟨_,_,rfl,(v1.append hargs).append v2⟩,by rw[d1];exact DRs.keep g1.keeps _ _ hd⟩
  ·cases k1
 ·cases h0
end
def rY (P:Program) (ti:TI):Dl:=λg ds h=>
 match P.funcs[g]? with
 | some fn=>
  match fn.body with
  | some (.region _ ops false)=>
   if fn.name == "runtime.NumGoroutine" then none else
   match gI P ti ops (List.range ops.size) (fL fn ds h) with
   | some s1=>(match gB ti fn s1 with|some _=>some s1.h|none=>none)
   | none=>none
  | _=>none
 | none=>none
theorem vG {P:Program}{ti:TI}(T:TOk P ti):wG P (rY P ti):=λg ds h h' hr=>by
 unfold rY at hr;split at hr
 ·rename_i fn hfn;split at hr
  ·rename_i id ops hb;split at hr
   ·simp at hr
   ·rename_i hname;split at hr
    ·rename_i s1 h1;split at hr
     ·rename_i d hd;simp only[kA] at hr;subst hr;refine⟨by unfold dV;rw[hfn];simp only[hb,Option.isSome_some,Bool.true_and];simpa using hname,λc vs R hvs n=>?_⟩;refine callsDIn_of_wpSIn hfn hb trivial λc₀ cs hmode=>?_
      have hfit:Fit c (fL fn ds h) { tmps:=vs.toArray++Array.replicate (fn.ntmps-vs.toArray.size) undef,defers:=[] }:=by
       refine⟨R,?_⟩;simp only[fL,Array.toList_append,Array.toList_replicate,List.size_toArray];rw[hvs.length];exact hvs.append (VS.replicate V.undef _)
      have hrec:recoverD (c₀::cs)=none:=by simp[recoverD,hmode]
      have hc0:({ c₀ with mode:=.returning }:Frame)=c₀:=by rw[<-hmode]
      refine wpSIn_region (fw T ops (c₀::cs) hrec _ _ s1 c _ _ h1 hfit λc2 a2 f2 g2 p2 d2=>?_);obtain⟨v,e1,v1⟩:=dL (P:=P) T f2 hd
      exact⟨by rw[d2],.returning,by rw[hc0],v,e1,v,c2,rfl,rfl,rfl,f2.rel,g2,λj hj=>by
       have hn0:(fL fn ds h).h.next=h.next:=rfl
       exact p2 j hj⟩
     ·simp at hr
    ·simp at hr
  ·simp at hr
 ·simp at hr
def lW (P:Program) (ti:TI):Dl:=λg ds h=>match rY P ti g ds h with|some h'=>some h'|none=>mS P ti 100 g ds h
theorem vF {P:Program}{ti:TI}(hm:P.follows .mixedOrders=true) (T:TOk P ti):wG P (lW P ti):=λg ds h h' hr=>by
 unfold lW at hr;split at hr
 ·rename_i h1 e;injection hr with hr;subst hr
  exact vG T _ _ _ _ e
 ·exact qZ hm T 100 _ _ _ _ hr
section
variable (P:Program) (ti:TI) (xc:XC) (n:Nat)
noncomputable def qR:Code->Tr->HT->Nat->List DE->KC->Bool
 | .seq x y,t,h,nx,df,K=>qR x t h nx df λe t h nx df=>match e with|.normal=>qR y t h nx df K|e=>K e t h nx df
 | .region id ops true,t,h,nx,df,K=>(match pS ops with|some (o,cc,f)=>DQ P ti xc n ops o cc f t h nx df K|none=>ke P ti xc n true (.region id ops true) t h nx df K)
 | c,t,h,nx,df,K=>ke P ti xc n true c t h nx df K
noncomputable def lL (df:List DE) (h:HT) (nx:Nat) (K:HT->Nat->Bool):Bool:=
 match df with
 | []=>K h nx
 | [.mark id]=>h.getK id λb=>(match b with|.dfr=>h.delK id λh'=>K h' nx|_=>false)
 | [.call g ds]=>cU (lW P ti g ds (h.heap nx)) λh1=>K (AK h1.bs) h1.next
 | _=>false
noncomputable def wM (g:FuncId) (ds:List D) (h:HT) (nx:Nat) (K:D->HT->Nat->Bool):Bool:=
 match P.funcs[g]? with
 | some fn=>
  match fn.body with
  | some code=>ifB (Nat.ble ds.length fn.ntmps&&Nat.ble fn.ntmps (2 ^ dep fn.ntmps)&&!(fn.name == "runtime.NumGoroutine")) (se ds 0 (Tr.full aP (dep fn.ntmps)) λt=>qR P ti xc fn.ntmps code t h nx [] λe t h nx df=>
   match e with
   | .normal=>lL P ti df h nx λh nx=>lJ ti fn.ntmps t h fn.results.toList λrs=>cU (nA rs) λd=>K d h nx
   | .ret=>lL P ti df h nx λh nx=>lJ ti fn.ntmps t h fn.results.toList λrs=>cU (nA rs) λd=>K d h nx
   | _=>false) false
  | none=>false
 | none=>false
end
section
variable {P:Program}{ti:TI}{xc:XC}{n k:Nat}
theorem nw (hm:P.follows .mixedOrders=true) (T:TOk P ti) (X:XOk P xc) (hn:n<=2 ^ k):∀ (code:Code) (t:Tr) (h:HT) (nx:Nat) (df:List DE) (K:KC),qR P ti xc n code t h nx df K=true->t.perf k ->
  ∃ e t' h' nx' df',K e t' h' nx' df'=true∧t'.perf k∧CW P true code (sT n t h nx) df e (sT n t' h' nx') df'
 | .seq x y,t,h,nx,df,K,hs,hp=>by
  simp only[qR] at hs;obtain⟨e,t1,h1,nx1,df1,k1,k2,k3⟩:=nw hm T X hn x t h nx df _ hs hp;cases e with
  | normal=>
   obtain⟨e2,t2,h2,nx2,df2,q1,q2,q3⟩:=nw hm T X hn y t1 h1 nx1 df1 _ k1 k2;exact⟨e2,t2,h2,nx2,df2,q1,q2,CW.seq k3 q3⟩
  | _=>exact⟨_,t1,h1,nx1,df1,k1,k2,CW.seqX k3 si⟩
 | .region id ops true,t,h,nx,df,K,hs,hp=>by
  simp only[qR] at hs;split at hs
  ·rename_i ho;exact zE hm T X hn ho hs hp
  ·exact bK hm T X hn _ t h nx df K hs hp
 | .region id ops false,t,h,nx,df,K,hs,hp=>bK hm T X hn _ t h nx df K hs hp
 | .skip,t,h,nx,df,K,hs,hp=>bK hm T X hn _ t h nx df K hs hp
 | .cond _ _ _,t,h,nx,df,K,hs,hp=>bK hm T X hn _ t h nx df K hs hp
 | .block _ _,t,h,nx,df,K,hs,hp=>bK hm T X hn _ t h nx df K hs hp
 | .loop _,t,h,nx,df,K,hs,hp=>bK hm T X hn _ t h nx df K hs hp
 | .rangeFunc _ _ _ _,t,h,nx,df,K,hs,hp=>bK hm T X hn _ t h nx df K hs hp
 | .exit _,t,h,nx,df,K,hs,hp=>bK hm T X hn _ t h nx df K hs hp
 | .scope _,t,h,nx,df,K,hs,hp=>bK hm T X hn _ t h nx df K hs hp
 | .label _,t,h,nx,df,K,hs,hp=>bK hm T X hn _ t h nx df K hs hp
 | .goto _,t,h,nx,df,K,hs,hp=>bK hm T X hn _ t h nx df K hs hp
 | .ret,t,h,nx,df,K,hs,hp=>bK hm T X hn _ t h nx df K hs hp
 | .refuse _,t,h,nx,df,K,hs,hp=>bK hm T X hn _ t h nx df K hs hp
theorem un {df:List DE}{h:HT}{nx:Nat}{K:HT->Nat->Bool}(hs:lL P ti df h nx K=true):∃ h1 h' nx',eQ (lW P ti) df (h.heap nx)=some h1∧Heq h1 (h'.heap nx')∧K h' nx'=true:=by
 unfold lL at hs;split at hs
 ·exact⟨_,h,nx,rfl,Heq.refl _,hs⟩
 ·rename_i id;obtain⟨b,hb,hs⟩:=HT.getK_some hs;split at hs
  ·rw[HT.delK_eq] at hs;refine⟨(h.heap nx).del id,_,nx,?_,⟨rfl,λj=>by rw[aB.get_del,HT.heap_get,HT.heap_get,HT.get_del]⟩,hs⟩;simp only[eQ,HT.heap_get,hb]
  ·cases hs
 ·rename_i g ds;obtain⟨h1,e1,hs⟩:=aU hs;exact⟨h1,_,_,by simp only[eQ,e1],⟨rfl,λj=>by rw[HT.heap_get,od];rfl⟩,hs⟩
 ·cases hs
theorem zA (hm:P.follows .mixedOrders=true) (T:TOk P ti) (X:XOk P xc){g:FuncId}{ds:List D}{h:HT}{nx:Nat}{K:D->HT->Nat->Bool}(hs:wM P ti xc g ds h nx K=true):∃ d h' nx',AC1 P g ds (h.heap nx) d (h'.heap nx')∧K d h' nx'=true:=by
 unfold wM at hs;split at hs
 ·rename_i fn hfn;split at hs
  ·rename_i code hb;rcases aR hs with⟨hc,hs⟩|⟨_,h0⟩
   ·simp only[kC,Nat.ble_eq,Bool.not_eq_true'] at hc;obtain⟨⟨hc1,hc2⟩,hc3⟩:=hc
    obtain⟨t,t1,t2,hs⟩:=lN (n:=fn.ntmps) (k:=dep fn.ntmps) hc2 (ds:=ds) (p:=[]) (Tr.perf_full (vv _)) (by simpa using hc1) (by
     apply List.ext_getElem?;intro i;by_cases hi:i<fn.ntmps
     ·rw[iI hi,Tr.get_full];simp[hi]
     ·rw[List.getElem?_eq_none (by rw[eY];omega),List.getElem?_eq_none (by simp;omega)]) hs
    obtain⟨e,t',h',nx',df',k1,k2,k3⟩:=nw hm T X hc2 code t h nx [] _ hs t2
    have hbegin:sT fn.ntmps t h nx=fL fn ds (h.heap nx):=by
     simp only[sT,fL,t1,List.nil_append,List.length_nil,Nat.zero_add]
    rw[hbegin] at k3;have DL:wG P (lW P ti):=vF hm T
    have key:(e=.normal∨e=.ret)->lL P ti df' h' nx' (λh nx=>lJ ti fn.ntmps t' h fn.results.toList λrs=>cU (nA rs) λd=>K d h nx)=true->∃ d h' nx',AC1 P g ds (h.heap nx) d (h'.heap nx')∧K d h' nx'=true:=λhe k1=>by
     obtain⟨h1,h2,nx2,q1,q2,q3⟩:=un k1;obtain⟨rs,q4,q5⟩:=ny (nx:=nx2) q3;obtain⟨d,q6,q7⟩:=aU q5
     have hres:gB ti fn ⟨(sT fn.ntmps t' h' nx').tmps,h1⟩=some d:=by
      have hq:cg ti ⟨tmL fn.ntmps t',h1⟩ fn.results.toList=some rs:=by
       rw[<-q4]
       have:∀ l:List ResultVar,cg ti ⟨tmL fn.ntmps t',h1⟩ l=cg ti (sT fn.ntmps t' h2 nx2) l:=by
        intro l
        induction l with
        | nil=>rfl
        | cons r l ih=>
         have:fr ti ⟨tmL fn.ntmps t',h1⟩ r=fr ti (sT fn.ntmps t' h2 nx2) r:=by
          cases r with
          | tmp i=>rfl
          | cell a ty=>
           simp only[fr];split
           ·exact m7 q2
           ·rfl
         simp only[cg,this,ih]
       exact this _
      unfold gB;rw[hq];exact q6
     have:=AC1.of_cw T DL hfn hb hc3 k3 he q1 hres
     exact⟨d,h2,nx2,this.congr (Heq.refl _) q2,q7⟩
    split at k1
    ·exact key (.inl rfl) k1
    ·exact key (.inr rfl) k1
    ·cases k1
   ·cases h0
  ·cases hs
 ·cases hs
end
noncomputable def rG (P:Program) (ti:TI) (sp:FuncId->List D->Option D) (f:Nat):XC:=
 Nat.rec (motive:=λ_=>XC) (λ_ _ _ _ _=>false) (λ_ ih k ds h nx K=>
  match k with
  | .fn g=>(match sp g ds with|some d=>K d h (nx+1)|none=>wM P ti ih g ds h nx K)
  | .yf id=>i8 P ti ih id ds h nx K) f
theorem mJ {P:Program}{ti:TI}{sp:FuncId->List D->Option D}(hm:P.follows .mixedOrders=true) (T:TOk P ti) (S:qO P sp):∀ f,XOk P (rG P ti sp f)
 | 0=>λk ds h nx K hs=>by cases hs
 | f+1=>λk ds h nx K hs=>by
  cases k with
  | yf id=>exact mH hm T (mJ hm T S f) (show i8 P ti (rG P ti sp f) id ds h nx K=true from hs)
  | fn g=>
   replace hs:(match sp g ds with|some d=>K d h (nx+1)|none=>wM P ti (rG P ti sp f) g ds h nx K)=true:=hs
   split at hs
   ·rename_i d hd;exact⟨d,h,nx+1,AC1.bump (S g ds d hd _),hs⟩
   ·exact zA hm T (mJ hm T S f) hs
theorem Pu.of_w {P:Program}{ti:TI}{sp:FuncId->List D->Option D}(hm:P.follows .mixedOrders=true) (T:TOk P ti) (S:qO P sp){f:Nat}{g:FuncId}{ds:List D}{d:D}(hn:aJ ds=true) (hr:rG P ti sp f (.fn g) ds .emp 0 (λd1 h1 _=>tI h1 100000 d1 d)=true):Pu P g ds d:=by
 obtain⟨d1,h1,nx1,k1,k2⟩:=mJ hm T S f _ _ _ _ _ hr;exact Pu.of_ac hn k1 (lV _ _ _ k2)
end Go.Am
namespace Go.Proofs.YticpeeooobajgaaGreatDoor
open Go Go.Am Classical
set_option maxRecDepth 100000
set_option linter.unusedVariables false
theorem str0:Pu Tryz.prog 13 [zN,aT,aT,aT] (i64 5):=
 Pu.of_w (sp:=λg ds=>spL g ds T57) aA T0 sY (f:=60) (by kernel_rfl) (by kernel_rfl)
end Go.Proofs.YticpeeooobajgaaGreatDoor
