/-
  Closed runs with yields: rounds of loops over functions, carried out over trees.
-/
import Derived.Test.YticpeeooobajgaaGreatDoorAmF
import Derived.Test.YticpeeooobajgaaGreatDoorND
set_option linter.unusedSectionVars false
namespace Go.Am
set_option linter.unusedVariables false
variable [GT]
theorem CW.heq {P:Program}{top:Bool}{code:Code}{tm:List D}{h k:aB}{df df':List DE}{e:Exit}{s':St}(he:Heq h k) (hw:CW P top code ⟨tm,h⟩ df e s' df'):CW P top code ⟨tm,k⟩ df e s' df':=λro m hro c a Q hf hd hQ=>
 hw ro m hro c a Q ⟨hf.rel.congr he.symm,hf.tmps⟩ hd λc' a' f1 g1 p1 d1=>hQ c' a' f1 (g1.congr he (Heq.refl _)) (λj hj=>p1 j (by have:=he.next;show j<h.next;rw[this];exact hj)) d1
theorem Y1.of_cw {P:Program}{id:Nat}{ds:List D}{h:aB}{tm tm1 tm2:List D}{ps ps1 ps2:List Tmp}{assign body as1 bd1 as2 bd2:Code}{st2:LoopState}{pend2:Option Code}{s1 s2:St}{df1 df2:List DE}{e:Exit}{jump:Option Code}
  (hg:h.get id=some (.loop .ready none tm ps assign body)) (hlen:ds.length=ps.length) (h1:CW P false assign ⟨eL ps ds tm,h⟩ [] .normal s1 df1) (hg1:s1.h.get id=some (.loop .ready none tm1 ps1 as1 bd1))
  (h2:CW P false body ⟨s1.tmps,s1.h.set id (.loop .busy none tm1 ps1 as1 bd1)⟩ df1 e s2 df2) (hg2:s2.h.get id=some (.loop st2 pend2 tm2 ps2 as2 bd2)) (hj:jV e=some jump) :
  Y1 P id ds h (.v (.bool jump.isNone)) (s2.h.set id (.loop (pR jump) jump tm2 ps2 as2 bd2)):=by
 intro c vs b R hvs hφ;have hid:id<h.next:=Nat.lt_of_not_le λhle=>by rw[R.fresh id hle] at hφ;cases hφ
 obtain⟨b0,o0,q1,_,q3⟩:=R.live _ _ hg;rw[hφ] at q1;injection q1 with q1;injection q1 with e1 e2;subst e1;subst e2
 obtain⟨_,L,l1,l2,l3,l4,l5,l6,l7⟩:=q3
 have hsz:vs.toArray.size=L.params.size:=by
  have a1:=hvs.length;have a2:L.params.toList.length=ps.length:=by rw[l5]
  simp at a2 ⊢;omega
 refine⟨_,_,_,_,run_yield l1 hsz,λro n=>roundIn_of_wpIn trivial ?_⟩;rw[nt,l5,l6,l7];have hfit:Fit c ⟨eL ps ds tm,h⟩ { tmps:=(ps.zip vs).foldl (λ(t:Array Value) p=>t.setIfInBounds p.1 p.2) L.tmps,defers:=[] }:=⟨R,gF ps ds vs tm L.tmps hvs l4⟩;refine h1 (some b) n (λh=>by cases h) c _ _ hfit (by simp[DRs]) λc1 a1 f1 g1 p1 d1=>?_
 have e1:c1.φ id=some (b,0):=by rw[p1 id hid];exact hφ
 obtain⟨b1,o1,r1,_,r3⟩:=f1.rel.live _ _ hg1;rw[e1] at r1;injection r1 with r1;injection r1 with x1 x2;subst x1;subst x2
 obtain⟨_,L1,m1,m2,m3,m4,m5⟩:=r3;obtain⟨R2,G2⟩:=fq f1.rel (box':=.loop .busy none tm1 ps1 as1 bd1) (o':=.loop { L1 with state:=.busy }) hg1 e1 (du m1) λK hb=>⟨rfl,_,hb,rfl,m3,VS.keep K _ _ m4,m5⟩
 refine⟨_,run_beginRound m1 m2,?_⟩;refine h2 (some b) n (λh=>by cases h) { c1 with w:=c1.w.putObj b (.loop { L1 with state:=.busy }) } a1 _ ⟨R2,VS.keep G2.keeps _ _ f1.tmps⟩ (DRs.keep G2.keeps _ _ d1) λc3 a3 f3 g3 p3 d3=>?_
 have hid1:id<(s1.h.set id (.loop .busy none tm1 ps1 as1 bd1)).next:=by
  have:=g1.next
  show id<s1.h.next;exact Nat.lt_of_lt_of_le hid this
 have e3:c3.φ id=some (b,0):=by rw[p3 id hid1];exact e1
 obtain⟨b3,o3,t1,_,t3⟩:=f3.rel.live _ _ hg2;rw[e3] at t1;injection t1 with t1;injection t1 with x1 x2;subst x1;subst x2
 obtain⟨_,L3,n1,n2,n3,n4,n5⟩:=t3;obtain⟨R4,G4⟩:=fq f3.rel (box':=.loop (pR jump) jump tm2 ps2 as2 bd2) (o':=.loop { L3 with state:=if jump.isNone then .ready else .done,pending:=jump }) hg2 e3 (du n1) λK hb=>⟨rfl,_,hb,rfl,rfl,VS.keep K _ _ n4,n5⟩
 have fin:∃ v c',(Ending.returned (.bool jump.isNone))=.returned v∧c'.w=c3.w.putObj b (.loop { L3 with state:=if jump.isNone then .ready else .done,pending:=jump })∧V c' (.v (.bool jump.isNone)) v∧Rel c' (s2.h.set id (.loop (pR jump) jump tm2 ps2 as2 bd2))∧aX c h c' (s2.h.set id (.loop (pR jump) jump tm2 ps2 as2 bd2))∧∀ j,j<h.next->c'.φ j=c.φ j:=by
  refine⟨_,_,rfl,rfl,by simp[V,cW],R4,((g1.trans G2).trans g3).trans G4,λj hj=>?_⟩;show c3.φ j=c.φ j;have hj1:j<(s1.h.set id (.loop .busy none tm1 ps1 as1 bd1)).next:=Nat.lt_of_lt_of_le hj g1.next;rw[p3 j hj1];exact p1 j hj
 cases e with
 | normal=>simp only[jV,kA] at hj;subst hj;exact⟨_,_,run_endRound none n1,fin⟩
 | ret=>simp only[jV,kA] at hj;subst hj;exact⟨_,_,run_endRound (some .ret) n1,fin⟩
 | exit x=>simp only[jV,kA] at hj;subst hj;exact⟨_,_,run_endRound (some (.exit x)) n1,fin⟩
 | goto x=>simp only[jV,kA] at hj;subst hj;exact⟨_,_,run_endRound (some (.goto x)) n1,fin⟩
 | panic x=>simp[jV] at hj
 | outgrown=>simp[jV] at hj
section
variable (P:Program) (ti:TI) (xc:XC)
noncomputable def wH (id:Nat) (K:D->HT->Nat->Bool) (e:Exit) (h:HT) (nx:Nat):Bool:=
 match jV e with
 | some jump=>h.getK id λb=>
  match b with
  | .loop _ _ tm2 ps2 as2 bd2=>h.putK id (.loop (pR jump) jump tm2 ps2 as2 bd2) λh=>K (.v (.bool jump.isNone)) h nx
  | _=>false
 | none=>false
noncomputable def wI (id n:Nat) (body:Code) (K:D->HT->Nat->Bool) (e:Exit) (t:Tr) (h:HT) (nx:Nat) (df:List DE):Bool:=
 match e with
 | .normal=>h.getK id λb=>
  match b with
  | .loop .ready none tm1 ps1 as1 bd1=>h.putK id (.loop .busy none tm1 ps1 as1 bd1) λh=>ke P ti xc n false body t h nx df λe _ h nx _=>wH id K e h nx
  | _=>false
 | _=>false
noncomputable def i8 (id:Nat) (ds:List D) (h:HT) (nx:Nat) (K:D->HT->Nat->Bool):Bool:=
 h.getK id λb=>
  match b with
  | .loop .ready none tm ps assign body=>ifB (Nat.beq ds.length ps.length&&Nat.ble (eL ps ds tm).length (2 ^ dep (eL ps ds tm).length)) (se (eL ps ds tm) 0 (Tr.full aP (dep (eL ps ds tm).length)) λt=>ke P ti xc (eL ps ds tm).length false assign t h nx [] λe t h nx df=>wI P ti xc id (eL ps ds tm).length body K e t h nx df) false
  | _=>false
noncomputable def oC (sp:FuncId->List D->Option D) (f:Nat):XC:=
 Nat.rec (motive:=λ_=>XC) (λ_ _ _ _ _=>false) (λ_ ih k ds h nx K=>
  match k with
  | .fn g=>(match sp g ds with|some d=>K d h (nx+1)|none=>xa P ti ih g ds h nx K)
  | .yf id=>i8 P ti ih id ds h nx K) f
end
section
variable {P:Program}{ti:TI}
theorem mH {xc:XC}(hm:P.follows .mixedOrders=true) (T:TOk P ti) (X:XOk P xc){id:Nat}{ds:List D}{h:HT}{nx:Nat}{K:D->HT->Nat->Bool}(hs:i8 P ti xc id ds h nx K=true):∃ d h' nx',Y1 P id ds (h.heap nx) d (h'.heap nx')∧K d h' nx'=true:=by
 unfold i8 at hs;obtain⟨b,hb,hs⟩:=HT.getK_some hs;split at hs
 ·rename_i tm ps assign body;rcases aR hs with⟨hc,hs⟩|⟨_,h0⟩
  ·simp only[kC,Nat.beq_eq,Nat.ble_eq] at hc;obtain⟨hlen,hc2⟩:=hc;generalize hL:eL ps ds tm=L at *
   obtain⟨t,t1,t2,hs⟩:=lN (n:=L.length) (k:=dep L.length) hc2 (ds:=L) (p:=[]) (Tr.perf_full (vv _)) si (by
    apply List.ext_getElem?;intro i;by_cases hi:i<L.length
    ·rw[iI hi,Tr.get_full];simp[hi]
    ·rw[List.getElem?_eq_none (by rw[eY];omega),List.getElem?_eq_none (by simp;omega)]) hs
   have t3:tmL L.length t=L:=by rw[t1];simp
   obtain⟨e,t',h',nx',df',k1,k2,k3⟩:=bK hm T X hc2 assign t h nx [] _ hs t2;unfold wI at k1;split at k1
   ·obtain⟨b1,hb1,k1⟩:=HT.getK_some k1;split at k1
    ·rename_i tm1 ps1 as1 bd1;rw[HT.putK_eq] at k1;obtain⟨e2,t'',h'',nx'',df'',q1,q2,q3⟩:=bK hm T X hc2 body t' _ nx' df' _ k1 k2;unfold wH at q1;split at q1
     ·rename_i jump hj;obtain⟨b2,hb2,q1⟩:=HT.getK_some q1;split at q1
      ·rename_i st2 pend2 tm2 ps2 as2 bd2;rw[HT.putK_eq] at q1;have hg1:(h'.heap nx').get id=some (.loop .ready none tm1 ps1 as1 bd1):=by rw[HT.heap_get];exact hb1
       have hg2:(h''.heap nx'').get id=some (.loop st2 pend2 tm2 ps2 as2 bd2):=by rw[HT.heap_get];exact hb2
       have w1:CW P false assign ⟨eL ps ds tm,h.heap nx⟩ [] .normal (sT L.length t' h' nx') df':=by
        rw[hL];have:=k3
        rw[show sT L.length t h nx=⟨L,h.heap nx⟩ by simp only[sT,t3]] at this;exact this
       have w2:CW P false body ⟨(sT L.length t' h' nx').tmps,(sT L.length t' h' nx').h.set id (.loop .busy none tm1 ps1 as1 bd1)⟩ df' e2 (sT L.length t'' h'' nx'') df'':=CW.heq (Heq.set hb1).symm q3;have:=Y1.of_cw (id:=id) (ds:=ds) (h:=h.heap nx) (by rw[HT.heap_get];exact hb) hlen w1 hg1 w2 hg2 hj
       exact⟨_,_,nx'',Y1.congr (Heq.refl _) (Heq.set hb2) this,q1⟩
      ·cases q1
     ·cases q1
    ·cases k1
   ·cases k1
  ·cases h0
 ·cases hs
theorem jl {sp:FuncId->List D->Option D}(hm:P.follows .mixedOrders=true) (T:TOk P ti) (S:qO P sp):∀ f,XOk P (oC P ti sp f)
 | 0=>λk ds h nx K hs=>by cases hs
 | f+1=>λk ds h nx K hs=>by
  cases k with
  | yf id=>exact mH hm T (jl hm T S f) (show i8 P ti (oC P ti sp f) id ds h nx K=true from hs)
  | fn g=>
   replace hs:(match sp g ds with|some d=>K d h (nx+1)|none=>xa P ti (oC P ti sp f) g ds h nx K)=true:=hs
   split at hs
   ·rename_i d hd;exact⟨d,h,nx+1,AC1.bump (S g ds d hd _),hs⟩
   ·exact wL hm T (jl hm T S f) hs
theorem Pu.of_y {sp:FuncId->List D->Option D}(hm:P.follows .mixedOrders=true) (T:TOk P ti) (S:qO P sp){f:Nat}{g:FuncId}{ds:List D}{d:D}(hn:aJ ds=true) (hr:oC P ti sp f (.fn g) ds .emp 0 (λd1 h1 _=>tI h1 100000 d1 d)=true):Pu P g ds d:=by
 obtain⟨d1,h1,nx1,k1,k2⟩:=jl hm T S f _ _ _ _ _ hr;exact Pu.of_ac hn k1 (lV _ _ _ k2)
end
end Go.Am
namespace Go.Proofs.YticpeeooobajgaaGreatDoor
open Go Go.Am Classical
set_option maxRecDepth 100000
set_option linter.unusedVariables false
theorem dI:qO Tryz.prog (λ_ _=>none):=λ_ _ _ h=>by cases h
noncomputable def zD (t:TypeId):D:=match lP Tryz.prog t with|some a=>.agg a.zero|none=>.any
theorem bnd0:Pu Tryz.prog 14 [zD 55,zD 58,aT] (i64 0):=
 Pu.of_y (sp:=λ_ _=>none) aA T0 dI (f:=30) (by kernel_rfl) (by kernel_rfl)
theorem tab0:Pu Tryz.prog 15 [zD 67,aE [8,4],aT] (i64 0):=
 Pu.of_y (sp:=λ_ _=>none) aA T0 dI (f:=30) (by kernel_rfl) (by kernel_rfl)
end Go.Proofs.YticpeeooobajgaaGreatDoor
namespace Go.Proofs.YticpeeooobajgaaGreatDoor
open Go Go.Am Classical
set_option maxRecDepth 100000
set_option linter.unusedVariables false
theorem xXN.rdX {p:Prop}(h:p:=by first|exact Rd.frzp rfl rfl (Rds.same hnb)|exact Rd.same rfl|exact Rd.same (aG t)|exact Rd.frz rfl rfl (kD rfl) (Rds.same rfl)|fail):p:=h
theorem xXN.rbX {p:Prop}(h:p:=by first|exact Rb.iter (Res.same he)|exact Rb.iter (Res.same λp hp=>(hl p (List.mem_of_mem_eraseIdx hp)).1)|fail):p:=h
open xXN
section
variable {inst:GT}
theorem Pk.of_ac {P:Program}{g:FuncId}{ds:List D}{d0:D}{h1:aB}{d:Nat->D}{bs:Nat->List (Nat×Box)}{olds:List Nat}(hn:aJ ds=true) (hp:AC1 P g ds ⟨0,[]⟩ d0 h1) (hr:Bh h1 d0 olds d bs):Pk P g ds olds.length d bs:=λh0=>by
 obtain⟨hent,hcall⟩:=hp;refine⟨hent,λc vs R hvs=>?_⟩;have R0:Rel { c with φ:=λ_=>none } ⟨0,[]⟩:=⟨R.size,λ_ _=>rfl,λid box hg=>by simp[aB.get,aV] at hg,λid id' box box' b o o' hg=>by simp[aB.get,aV] at hg,GT.keep (c:=c) (λ_ h=>h) (λ_ _=>rfl) R.inv⟩;have hvs0:VS { c with φ:=λ_=>none } ds vs:=VS.move (c:=c) (c':={ c with φ:=λ_=>none }) (λb hb=>⟨hb,rfl⟩) ds vs hn hvs;refine(hcall _ vs R0 hvs0).mono ?_;rintro e w' ⟨v,c1,rfl,rfl,v1,r1,g1,_⟩;obtain⟨c',k1,k2,k3,k4,k5⟩:=AE R r1 g1 hr v1;exact⟨v,c',rfl,k1,k2,k3,k4,k5⟩
noncomputable def mapB (es:List (D×D)) (d:D) (h:HT):Bool:=
 match d with
 | .map i=>h.getK i λb=>match b with|.map es'=>uK es' es|_=>false
 | _=>false
theorem Pk.of_ym {P:Program}{ti:TI}{sp:FuncId->List D->Option D}(hm:P.follows .mixedOrders=true) (T:TOk P ti) (S:qO P sp){f:Nat}{g:FuncId}{ds:List D}{es:List (D×D)}(hn:aJ ds=true) (he:∀ p∈es,aL p.1=true∧aL p.2=true) (hr:oC P ti sp f (.fn g) ds .emp 0 (λd1 h1 _=>mapB es d1 h1)=true):Pk P g ds 1 (λk=>.map k) (λk=>[(k,.map es)]):=by
 obtain⟨d1,h1,nx1,k1,k2⟩:=jl hm T S f _ _ _ _ _ hr;unfold mapB at k2;split at k2
 ·rename_i i;obtain⟨b,hb,k2⟩:=HT.getK_some k2;split at k2
  ·have e:=r6 k2;subst e;exact Pk.of_ac (olds:=[i]) hn k1 ⟨by simp,λn=>.map (by simp[sgn]),λn=>.cons (id:=i) (by simp[sgn]) (by rw[HT.heap_get];exact hb) si (.map (.same he)) .nil⟩
  ·cases k2
 ·cases k2
end
theorem dist_0:Pk Tryz.prog 86 [aT] 1 (λn=>.fn (.func 164) [] [.ptr n 0]) (λn=>[(n,.cells [aT] true)]):=by
 refine Pk.of_v aA T0 Tryz.func86 rfl rfl rfl ?_;repeat' ((conv=>whnf);first|exact kQ|(refine bk ?_ ?_<;>intro _<;>try(exfalso;omega))|refine stq ?_)
 all_goals(conv=>whnf)
 exact⟨[0],rfl,⟨by simp,λn=>.fn .nil (.cons (.ptr (by simp[sgn])) .nil),λn=>.cons (id:=0) (by simp[sgn]) rfl rfl (.cells (.cons (.same rfl) .nil) rfl) .nil⟩⟩
theorem dist_c {t:List Int}:Pk Tryz.prog 86 [aE t] 1 (λn=>.fn (.func 164) [] [.ptr n 0]) (λn=>[(n,.cells [aE t] true)]):=by
 refine Pk.of_v aA T0 Tryz.func86 rfl rfl (aQ (aG t) rfl) ?_;repeat' ((conv=>whnf);first|exact kQ|(refine bk ?_ ?_<;>intro _<;>try(exfalso;omega))|refine stq ?_)
 all_goals(conv=>whnf)
 exact⟨[0],rfl,⟨by simp,λn=>.fn .nil (.cons (.ptr (by simp[sgn])) .nil),λn=>.cons (id:=0) (by simp[sgn]) rfl rfl (.cells (.cons (.same (aG t)) .nil) rfl) .nil⟩⟩
theorem xS {u:List Int}{s:D}{f:Int}{k:Bool}{es:List (D×D)}(hs:aL s=true) (he:∀ p∈es,aL p.1=true∧aL p.2=true)
  (hw:Pu Tryz.prog 82 [aE [1,1]] (i64 1)) (hc:Pu Tryz.prog 85 [.fn (.func 164) [] [.iptr [aT]]] (aE u)) (hr:Pk Tryz.prog 163 [.agg [aT,aT,aT,i64 f,boo k,s],aE u] 1 (λn=>.map n) (λn=>[(n,.map es)])) (hes:∀ e∈es,e.2=i64 1) :
  Pu Tryz.prog 83 [.agg [aT,aT,aT,i64 f,boo k,s],aT] (i64 1):=by
  have hnb:aJ [aT,aT,aT,i64 f,boo k,s]=true:=by simp[aJ,aL,hs]
  refine Pu.of_v aA T0 Tryz.func83 rfl rfl (by simp[aJ,aL,hs]) ?_;repeat' ((conv=>whnf);first|refine ax.weak (x:=Code.seq (Code.seq (Code.region 2 _ true) _) _) aA T0 (s0:=⟨tmp 23 [(1,aT),(2,.iptr [aT,aT,aT,i64 f,boo k,s]),(4,i64 0),(5,i64 1)],⟨0,[]⟩⟩) ?_ ?_|exact kQ|(refine bk ?_ ?_<;>intro _<;>try(exfalso;omega))|refine stq ?_|refine ab.byW (id:=2) aA T0 [0,0,2,6,15,31] (by kernel_rfl) ?_|refine Cll.pk dist_0 ?_|refine Cll.give (.cons (.fn .nil (.cons (.frzp rfl rfl (.cons (.same rfl) .nil)) .nil)) .nil) hc ?_|refine Cll.pk hr ?_|refine Chk.mk ⟨_,rfl⟩ ?_|refine Chk.mk (λ_=>rfl) ?_|fail)
  all_goals(conv=>whnf)
  ·exact lq [] [0]
  refine aH.by aA T0 (λl:List (D×D)=>⟨tmp 23 [(5,i64 1),(13,.ptr 0 0)],⟨1,[(0,.iter l none)]⟩⟩) (λl=>∀ p∈l,(aL p.1=true∧aL p.2=true)∧p.2=i64 1) (λl=>l.length) es (λp hp=>⟨he p hp,hes p hp⟩) ?_ ?_
  ·exact lq [(0,5)] []
  intro l hl;repeat' ((conv=>whnf);first|exact kQ|(refine bk ?_ ?_<;>intro _<;>try(exfalso;omega))|refine stq ?_|(refine DF.mk (λhl0=>?_) (λj hj=>?_);rotate_left;rw[(hl _ (kM hj)).2])|refine Cll.borrow (.cons (Rd.frz rfl rfl (kD rfl) (Rds.same rfl)) .nil) hw ?_|fail)
  all_goals(conv=>whnf)
  all_goals first
   | exact aI.int rfl
   | (refine⟨l.eraseIdx j,λp hp=>hl p (List.mem_of_mem_eraseIdx hp),by rw[List.length_eraseIdx_of_lt hj];omega,?_⟩
      exact lq [(0,0)] [])
theorem xR {t:List Int}{u:List Int}{s:D}{f:Int}{k:Bool}{es:List (D×D)}(hs:aL s=true) (he:∀ p∈es,aL p.1=true∧aL p.2=true)
  (hw:Pu Tryz.prog 82 [aE [1,1]] (i64 1)) (hc:Pu Tryz.prog 85 [.fn (.func 164) [] [.iptr [aE t]]] (aE u)) (hr:Pk Tryz.prog 163 [.agg [aT,aT,aT,i64 f,boo k,s],aE u] 1 (λn=>.map n) (λn=>[(n,.map es)])) (hes:∀ e∈es,e.2=i64 1) :
  Pu Tryz.prog 83 [.agg [aT,aT,aT,i64 f,boo k,s],aE t] (i64 1):=by
  have hnb:aJ [aT,aT,aT,i64 f,boo k,s]=true:=by simp[aJ,aL,hs]
  refine Pu.of_v aA T0 Tryz.func83 rfl rfl (by simp[aJ,aL,hs,aG]) ?_;repeat' ((conv=>whnf);first|refine ax.weak (x:=Code.seq (Code.seq (Code.region 2 _ true) _) _) aA T0 (s0:=⟨tmp 23 [(1,aE t),(2,.iptr [aT,aT,aT,i64 f,boo k,s]),(4,i64 0),(5,i64 1)],⟨0,[]⟩⟩) ?_ ?_|exact kQ|(refine bk ?_ ?_<;>intro _<;>try(exfalso;omega))|refine stq ?_|refine ab.byW (id:=2) aA T0 [0,0,2,6,15,31] (by kernel_rfl) ?_|refine Cll.pk dist_c ?_|refine Cll.give (.cons (.fn .nil (.cons (.frzp rfl rfl (.cons (.same (aG t)) .nil)) .nil)) .nil) hc ?_|refine Cll.pk hr ?_|refine Chk.mk ⟨_,rfl⟩ ?_|refine Chk.mk (λ_=>rfl) ?_|fail)
  all_goals(conv=>whnf)
  ·exact lq [] [0]
  refine aH.by aA T0 (λl:List (D×D)=>⟨tmp 23 [(5,i64 1),(13,.ptr 0 0)],⟨1,[(0,.iter l none)]⟩⟩) (λl=>∀ p∈l,(aL p.1=true∧aL p.2=true)∧p.2=i64 1) (λl=>l.length) es (λp hp=>⟨he p hp,hes p hp⟩) ?_ ?_
  ·exact lq [(0,5)] []
  intro l hl;repeat' ((conv=>whnf);first|exact kQ|(refine bk ?_ ?_<;>intro _<;>try(exfalso;omega))|refine stq ?_|(refine DF.mk (λhl0=>?_) (λj hj=>?_);rotate_left;rw[(hl _ (kM hj)).2])|refine Cll.borrow (.cons (Rd.frz rfl rfl (kD rfl) (Rds.same rfl)) .nil) hw ?_|fail)
  all_goals(conv=>whnf)
  all_goals first
   | exact aI.int rfl
   | (refine⟨l.eraseIdx j,λp hp=>hl p (List.mem_of_mem_eraseIdx hp),by rw[List.length_eraseIdx_of_lt hj];omega,?_⟩
      exact lq [(0,0)] [])
abbrev j4:List Rng:=[⟨4449,4469⟩,⟨4520,4546⟩]
theorem sec_0 (hu:Pu Tryz.prog 273 [.agg [aT,aT,aT]] (.agg [aT,aT,aT])) (hc:Pk Tryz.prog 274 [.agg [aT,aT,aT]] 1 (λn=>.map n) (λn=>[(n,.map [])])) (hm:Pu Tryz.prog 276 [dJ j4] (rU j4)):Pu Tryz.prog 162 [.agg [aT,aT,aT]] (rU j4):=by
 refine pv Tryz.func162 ?_;repeat' ((conv=>whnf);first|refine ax.weak (x:=Code.seq (Code.region 6 _ false) _) aA T0 (s0:=⟨tmp 26 [(2,.ptr 0 0),(3,dJ j4)],⟨1,[(0,.cells [aT] true)]⟩⟩) ?_ ?_|exact kQ|(refine bk ?_ ?_<;>intro _<;>try(exfalso;omega))|refine stq ?_|refine cp hu ?_|refine cp hm ?_|refine Cll.pk hc ?_|refine aH.times aA T0 1 ?_|(refine DF.mk (λhl0=>?_) (λj hj=>absurd hj (Nat.not_lt_zero _)))|fail)
 all_goals(conv=>whnf)
 ·exact lq [(0,1)] [4]
 exact aI.same rfl rfl
end Go.Proofs.YticpeeooobajgaaGreatDoor
namespace Go.Proofs.YticpeeooobajgaaGreatDoor
open Go Go.Am Classical
set_option maxRecDepth 1000000
set_option linter.unusedVariables false
theorem tQ {α:Type}{f:α->D}(h:∀ x,one (f x)=true):∀ l:List α,fF (l.map f)=true
 | []=>rfl
 | x::l=>by simp[fF,h,tQ h l]
theorem frz_i [GT] {h:aB}{fz:Nat->Bool}{σ:Nat->Option Nat}{id n cap:Nat}{b:List Int}{cs:List D}{ex bx:Bool}(hf:fz id=true) (hg:h.get id=some (.cells cs bx)) (ec:cs=b.map i64) (e:n=b.length):Rd h fz σ (.sl id 0 n cap 1 ex) (aE b):=by
 subst e;subst ec;refine .frz hf hg si (.eqs ?_ (aN (λ_=>rfl) _));rw[List.drop_zero,kE si]
theorem cat_1 {k N:Nat}(h:k<=N):0+Int.toNat 0*1+(((0:Int)-0).toNat+k)*1<=(cY [i64 0] N).length:=by rw[@dS];simp;omega
theorem cat_2 {a:List Int}{k N:Nat}(h:a.length+k<=N):0+Int.toNat 0*1+(((0:Int)-0).toNat+a.length+k)*1<=(splice (cY [i64 0] N) (0+Int.toNat 0*1+((0:Int)-0).toNat*1) (a.map i64)).length:=by
 rw[@dS];simp[splice];omega
theorem cat_3 {a b:List Int}{N:Nat}(h:N=a.length+b.length):splice (splice (cY [i64 0] N) (0+Int.toNat 0*1+((0:Int)-0).toNat*1) (a.map i64)) (0+Int.toNat 0*1+(((0:Int)-0).toNat+a.length)*1) (b.map i64)=(a++b).map i64:=by
 subst h;rw[@dS];simp[splice]
theorem Bo {a b:List Int}(h:a.length+b.length<=10000):Pu Tryz.prog 35 [.imm 2 [aE a,aE b]] (aE (a++b)):=by
 by_cases hz:a.length+b.length=0
 ·obtain rfl:a=[]:=List.length_eq_zero_iff.1 om;obtain rfl:b=[]:=List.length_eq_zero_iff.1 om;refine pv Tryz.func35 ?_;repeat' ((conv=>whnf);first|exact kQ|(refine bk ?_ ?_<;>intro _<;>try(exfalso;omega))|refine stq ?_|refine aH.times aA T0 3 ?_|refine Idx.mk (by decide) (by decide) rfl ?_|(apply Cll.inl aA T0 Tryz.func90 rfl rfl ?_;rotate_left)|refine ad.lst ?_|exact⟨Or.inr rfl,rfl,rfl⟩|fail)
  all_goals(conv=>whnf)
  all_goals first
   | (exfalso;simp at *;done)
   | exact⟨Rd.nil⟩
 ·refine pv Tryz.func35 ?_;repeat' ((conv=>whnf);first|exact kQ|(refine bk ?_ ?_<;>intro _<;>try(exfalso;omega))|refine stq ?_|refine aH.times aA T0 3 ?_|refine Idx.mk (by decide) (by decide) rfl ?_|refine Chk.mk ⟨by omega,by omega,(by show _*8<=1099511627776;omega),(by show 0<1;omega)⟩ ?_|refine ad.lst ?_|refine Chk.mk (tQ (λ_=>rfl) _) ?_|refine Chk.mk (cat_1 om) ?_|refine Chk.mk (cat_2 om) ?_|(apply Cll.inl aA T0 Tryz.func90 rfl rfl ?_;rotate_left)|exact⟨Or.inr rfl,rfl,rfl⟩|fail)
  all_goals(conv=>whnf)
  exact⟨frz_i (b:=a++b) rfl rfl (cat_3 om) si⟩
end Go.Proofs.YticpeeooobajgaaGreatDoor
