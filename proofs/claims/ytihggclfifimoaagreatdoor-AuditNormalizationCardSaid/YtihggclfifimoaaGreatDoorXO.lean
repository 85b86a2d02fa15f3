/-
  Parts of the example of layer 57, run: quick checks and second elements at zero data.
-/
import Derived.Test.YtihggclfifimoaaGreatDoorHB
set_option linter.unusedSectionVars false
namespace Go.Proofs.YtihggclfifimoaaGreatDoor
open Go Go.Am Classical
set_option maxRecDepth 100000
section
set_option linter.unusedVariables false
abbrev zN:D:=.agg [aO,aO,aO]
abbrev ckZ (f:Int) (k:Bool) (s:D):D:=.agg [aO,aO,aO,i64 f,boo k,s]
theorem usb0:Pu Tryz.prog 267 [zN] zN:=Pu.of_y (sp:=λ_ _=>none) aA T0 cq (f:=30) (by kernel_rfl) (by kernel_rfl)
theorem cps0:Pk Tryz.prog 268 [zN] 1 (λn=>.map n) (λn=>[(n,.map [])]):=Pk.of_ym (sp:=λ_ _=>none) aA T0 cq (f:=30) (by kernel_rfl) si (by kernel_rfl)
theorem mak0:Pu Tryz.prog 270 [bD d8] (fJ d8):=Pu.of_y (sp:=λ_ _=>none) aA T0 cq (f:=30) (by kernel_rfl) (by kernel_rfl)
theorem snd0:Pu Tryz.prog 150 [zN] (fJ d8):=sec_0 usb0 cps0 mak0
theorem vG:Pu Tryz.prog 75 [aF [1,1]] (i64 1):=Pu.of_y (sp:=λ_ _=>none) aA T0 cq (f:=30) (by kernel_rfl) (by kernel_rfl)
theorem Gl:Pu Tryz.prog 78 [.fn (.func 153) [] [.iptr [aO]]] (aF []):=Pu.of_y (sp:=λ_ _=>none) aA T0 cq (f:=30) (by kernel_rfl) (by kernel_rfl)
theorem Gk:Pu Tryz.prog 78 [.fn (.func 153) [] [.iptr [aF [1,2]]]] (aF [1,2]):=Pu.of_y (sp:=λ_ _=>none) aA T0 cq (f:=30) (by kernel_rfl) (by kernel_rfl)
abbrev es1:List (D×D):=[(i64 1,i64 1),(i64 2,i64 1)]
theorem al10:Pu Tryz.prog 76 [ckZ 1 false (bD d8),aO] (i64 1):=Ao (es:=[]) rfl si vG Gl (Pk.of_ym (sp:=λ_ _=>none) aA T0 cq (f:=40) (by kernel_rfl) si (by kernel_rfl)) si
theorem al11:Pu Tryz.prog 76 [ckZ 1 false (bD d8),aF [1,2]] (i64 1):=An (es:=es1) rfl (by simp[aL]) vG Gk (Pk.of_ym (sp:=λ_ _=>none) aA T0 cq (f:=40) (by kernel_rfl) (by simp[aL]) (by kernel_rfl)) si
theorem al20:Pu Tryz.prog 76 [ckZ 2 false aO,aO] (i64 1):=Ao (es:=[]) rfl si vG Gl (Pk.of_ym (sp:=λ_ _=>none) aA T0 cq (f:=40) (by kernel_rfl) si (by kernel_rfl)) si
theorem al21:Pu Tryz.prog 76 [ckZ 2 false aO,aF [1,2]] (i64 1):=An (es:=es1) rfl (by simp[aL]) vG Gk (Pk.of_ym (sp:=λ_ _=>none) aA T0 cq (f:=40) (by kernel_rfl) (by simp[aL]) (by kernel_rfl)) si
theorem al30:Pu Tryz.prog 76 [ckZ 3 true (bD d8),aO] (i64 1):=Ao (es:=[]) rfl si vG Gl (Pk.of_ym (sp:=λ_ _=>none) aA T0 cq (f:=40) (by kernel_rfl) si (by kernel_rfl)) si
theorem al31:Pu Tryz.prog 76 [ckZ 3 true (bD d8),aF [1,2]] (i64 1):=An (es:=es1) rfl (by simp[aL]) vG Gk (Pk.of_ym (sp:=λ_ _=>none) aA T0 cq (f:=40) (by kernel_rfl) (by simp[aL]) (by kernel_rfl)) si
theorem al40:Pu Tryz.prog 76 [ckZ 4 true aO,aO] (i64 1):=Ao (es:=[]) rfl si vG Gl (Pk.of_ym (sp:=λ_ _=>none) aA T0 cq (f:=40) (by kernel_rfl) si (by kernel_rfl)) si
theorem al41:Pu Tryz.prog 76 [ckZ 4 true aO,aF [1,2]] (i64 1):=An (es:=es1) rfl (by simp[aL]) vG Gk (Pk.of_ym (sp:=λ_ _=>none) aA T0 cq (f:=40) (by kernel_rfl) (by simp[aL]) (by kernel_rfl)) si
end
section
set_option linter.unusedVariables false
noncomputable def ifO {α:Type}(b:Bool) (x y:Option α):Option α:=match b with|true=>x|false=>y
noncomputable def spL (g:FuncId) (ds:List D):List (FuncId×List D×D)->Option D
 | []=>none
 | (f,es,d)::t=>ifO (Nat.beq f g) (ifO (oN es ds) (some d) (spL g ds t)) (spL g ds t)
theorem yP {P:Program}{t:List (FuncId×List D×D)}(h:∀ e∈t,Pu P e.1 e.2.1 e.2.2):pN P (λg ds=>spL g ds t):=by
 intro g ds d
 induction t with
 | nil=>intro hd;cases hd
 | cons e t ih=>
  intro hd;have ih:=ih λe he=>h e (List.mem_cons_of_mem _ he)
  obtain⟨f,es,d0⟩:=e;simp only[spL,ifO] at hd;cases h1:Nat.beq f g with
  | false=>rw[h1] at hd;exact ih hd
  | true=>
   rw[h1] at hd;simp only at hd;cases h2:oN es ds with
   | false=>rw[h2] at hd;exact ih hd
   | true=>
    rw[h2] at hd;injection hd with hd
    have e1:=Nat.eq_of_beq_eq_true h1;have e2:=gE _ _ h2;have:=h _ (List.mem_cons_self)
    simp only at this;rw[<-e1,<-e2,<-hd];exact this
noncomputable def T57:List (FuncId×List D×D):=[(150,[zN],fJ d8),
 (76,[ckZ 1 false (bD d8),aO],i64 1),(76,[ckZ 1 false (bD d8),aF [1,2]],i64 1),
 (76,[ckZ 2 false aO,aO],i64 1),(76,[ckZ 2 false aO,aF [1,2]],i64 1),
 (76,[ckZ 3 true (bD d8),aO],i64 1),(76,[ckZ 3 true (bD d8),aF [1,2]],i64 1),
 (76,[ckZ 4 true aO,aO],i64 1),(76,[ckZ 4 true aO,aF [1,2]],i64 1)]
theorem u9:pN Tryz.prog (λg ds=>spL g ds T57):=yP (by
 unfold T57;simp only[List.forall_mem_cons]
 exact⟨snd0,al10,al11,al20,al21,al30,al31,al40,al41,by simp⟩)
theorem nrm0:Pu Tryz.prog 7 [zN,aO] (i64 12):=Pu.of_y (sp:=λg ds=>spL g ds T57) aA T0 u9 (f:=60) (by kernel_rfl) (by kernel_rfl)
def argB (h:HT) (d d':D):Bool:=match d,d' with
 | .ptr id 0,.iptr cs'=>(match h.get id with|some (.cells cs _)=>kT h 100000 cs cs'|_=>false)
 | d,d'=>vq h 100000 d d'
def nc (h:HT):List D->List D->Bool
 | [],[]=>true
 | d::ds,d' :: ds'=>argB h d d' && nc h ds ds'
 | _,_=>false
theorem Gw {h:HT}{m:Nat}{d d':D}(hs:argB h d d'=true):Rd (h.heap m) (λ_=>true) (λ_=>none) d d':=by
 unfold argB at hs;split at hs
 ·split at hs
  ·rename_i hg;exact .frzp rfl (by rw[HT.heap_get];exact hg) (by rw[List.drop_zero];exact iZ _ _ _ hs)
  ·cases hs
 ·exact mo _ _ _ hs
theorem rX {h:HT}{m:Nat}:∀ {ds ds':List D},nc h ds ds'=true->Rds (h.heap m) (λ_=>true) (λ_=>none) ds ds'
 | [],[],_=>.nil
 | d::ds,d' :: ds',hs=>by
  simp only[nc,kC] at hs;exact .cons (Gw hs.1) (rX hs.2)
 | [],_::_,hs=>by simp[nc] at hs
 | _::_,[],hs=>by simp[nc] at hs
noncomputable def brL (g:FuncId) (ds:List D) (h:HT):List (FuncId×List D×Value)->Option Value
 | []=>none
 | (f,es,x)::t=>ifO (Nat.beq f g) (ifO (nc h ds es) (some x) (brL g ds h t)) (brL g ds h t)
theorem En {P:Program}{g:FuncId}{ds:List D}{h:HT}{m:Nat}{x:Value}:∀ {t:List (FuncId×List D×Value)},(∀ e∈t,Pu P e.1 e.2.1 (.v e.2.2))->brL g ds h t=some x->AC1 P g ds (h.heap m) (.v x) (h.heap m)
 | [],_,hs=>by cases hs
 | (f,es,y)::t,ht,hs=>by
  have ih:=λhs=>En (m:=m) (λe he=>ht e (List.mem_cons_of_mem _ he)) (show brL g ds h t=some x from hs)
  simp only[brL,ifO] at hs;cases h1:Nat.beq f g with
  | false=>rw[h1] at hs;exact ih hs
  | true=>
   rw[h1] at hs;simp only at hs;cases h2:nc h ds es with
   | false=>rw[h2] at hs;exact ih hs
   | true=>
    rw[h2] at hs;injection hs with hs
    have e1:=Nat.eq_of_beq_eq_true h1;have:=ht _ (List.mem_cons_self)
    simp only at this;rw[<-e1,<-hs];exact AC1.borrow (rX h2) this
noncomputable def gvL (g:FuncId) (ds:List D) (h:HT):List (FuncId×List D×D)->Option D
 | []=>none
 | (f,es,x)::t=>ifO (Nat.beq f g) (ifO (nc h ds es) (some x) (gvL g ds h t)) (gvL g ds h t)
theorem EF {P:Program}{g:FuncId}{ds:List D}{h:HT}{m:Nat}{x:D}:∀ {t:List (FuncId×List D×D)},(∀ e∈t,Pu P e.1 e.2.1 e.2.2)->gvL g ds h t=some x->AC1 P g ds (h.heap m) x (HT.emp.heap m)
 | [],_,hs=>by cases hs
 | (f,es,y)::t,ht,hs=>by
  have ih:=λhs=>EF (m:=m) (λe he=>ht e (List.mem_cons_of_mem _ he)) (show gvL g ds h t=some x from hs)
  simp only[gvL,ifO] at hs;cases h1:Nat.beq f g with
  | false=>rw[h1] at hs;exact ih hs
  | true=>
   rw[h1] at hs;simp only at hs;cases h2:nc h ds es with
   | false=>rw[h2] at hs;exact ih hs
   | true=>
    rw[h2] at hs;injection hs with hs
    have e1:=Nat.eq_of_beq_eq_true h1;have:=ht _ (List.mem_cons_self)
    simp only at this;rw[<-e1,<-hs];exact AC1.give (rX h2) this
noncomputable def tU (P:Program) (ti:TI) (sp:FuncId->List D->Option D) (t:List (FuncId×List D×Value)) (u:List (FuncId×List D×D)) (f:Nat):XC:=
 Nat.rec (motive:=λ_=>XC) (λ_ _ _ _ _=>false) (λ_ ih k ds h nx K=>
  match k with
  | .fn g=>(match sp g ds with|some d=>K d h (nx+1)|none=>(match brL g ds h t with|some x=>K (.v x) h (nx+1)|none=>(match gvL g ds h u with|some d=>K d .emp (nx+1)|none=>Aw P ti ih g ds h nx K)))
  | .yf id=>ju P ti ih id ds h nx K) f
theorem nk {P:Program}{ti:TI}{sp:FuncId->List D->Option D}{t:List (FuncId×List D×Value)}{u:List (FuncId×List D×D)}(hm:P.follows .mixedOrders=true) (T:TOk P ti) (S:pN P sp) (B:∀ e∈t,Pu P e.1 e.2.1 (.v e.2.2)) (U:∀ e∈u,Pu P e.1 e.2.1 e.2.2):∀ f,XOk P (tU P ti sp t u f)
 | 0=>λk ds h nx K hs=>by cases hs
 | f+1=>λk ds h nx K hs=>by
  cases k with
  | yf id=>exact nh hm T (nk hm T S B U f) (show ju P ti (tU P ti sp t u f) id ds h nx K=true from hs)
  | fn g=>
   replace hs:(match sp g ds with|some d=>K d h (nx+1)|none=>(match brL g ds h t with|some x=>K (.v x) h (nx+1)|none=>(match gvL g ds h u with|some d=>K d .emp (nx+1)|none=>Aw P ti (tU P ti sp t u f) g ds h nx K)))=true:=hs
   split at hs
   ·rename_i d hd;exact⟨d,h,nx+1,AC1.bump (S g ds d hd _),hs⟩
   ·split at hs
    ·rename_i x hx;exact⟨.v x,h,nx+1,AC1.bump (En B hx),hs⟩
    ·split at hs
     ·rename_i x hx;exact⟨x,.emp,nx+1,AC1.bump (EF U hx),hs⟩
     ·exact zY hm T (nk hm T S B U f) hs
theorem Pu.of_b {P:Program}{ti:TI}{sp:FuncId->List D->Option D}{t:List (FuncId×List D×Value)}{u:List (FuncId×List D×D)}(hm:P.follows .mixedOrders=true) (T:TOk P ti) (S:pN P sp) (B:∀ e∈t,Pu P e.1 e.2.1 (.v e.2.2)) (U:∀ e∈u,Pu P e.1 e.2.1 e.2.2){f:Nat}{g:FuncId}{ds:List D}{d:D}(hn:aK ds=true) (hr:tU P ti sp t u f (.fn g) ds .emp 0 (λd1 h1 _=>vq h1 100000 d1 d)=true):Pu P g ds d:=by
 obtain⟨d1,h1,nx1,k1,k2⟩:=nk hm T S B U f _ _ _ _ _ hr;exact Pu.of_ac hn k1 (mo _ _ _ k2)
abbrev Ej (f:Int):List D:=[.iptr [aO,aO,aO],.iptr [i64 f],.iptr [aF [1,2]],.iptr [i64 1],.iptr [aF [1,2]]]
noncomputable def U57:List (FuncId×List D×D):=[(26,[.imm 2 [aF [1],aF [2]]],aF [1,2])]
theorem U57_ok:∀ e∈U57,Pu Tryz.prog e.1 e.2.1 e.2.2:=by
 unfold U57;simp only[List.forall_mem_cons];exact⟨xw (a:=[1]) (b:=[2]) si,by simp⟩
theorem B0_ok:∀ e∈([]:List (FuncId×List D×Value)),Pu Tryz.prog e.1 e.2.1 (.v e.2.2):=by simp
theorem Gp (f:Int) (hf:f=1∨f=2∨f=3∨f=4):Pu Tryz.prog 25 (Ej f) (boo true):=by
 rcases hf with rfl|rfl|rfl|rfl
 all_goals exact Pu.of_b (t:=[]) (u:=U57) (sp:=λg ds=>spL g ds T57) aA T0 u9 B0_ok U57_ok (f:=60) (by kernel_rfl) (by kernel_rfl)
noncomputable def B57:List (FuncId×List D×Value):=[(25,Ej 1,.bool true),(25,Ej 2,.bool true),(25,Ej 3,.bool true),(25,Ej 4,.bool true)]
theorem B57_ok:∀ e∈B57,Pu Tryz.prog e.1 e.2.1 (.v e.2.2):=by
 unfold B57;simp only[List.forall_mem_cons];exact⟨Gp 1 om,Gp 2 om,Gp 3 om,Gp 4 om,by simp⟩
theorem nrm1:Pu Tryz.prog 7 [zN,aF [1,2]] (i64 16):=Pu.of_b (t:=B57) (u:=[]) (sp:=λg ds=>spL g ds T57) aA T0 u9 B57_ok si (f:=60) (by kernel_rfl) (by kernel_rfl)
end
end Go.Proofs.YtihggclfifimoaaGreatDoor
