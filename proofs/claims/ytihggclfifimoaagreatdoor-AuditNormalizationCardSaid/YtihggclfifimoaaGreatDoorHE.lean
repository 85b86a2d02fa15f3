/-
  Contracts of functions over data: valid mappings of the reference.
-/
import Derived.Test.YtihggclfifimoaaGreatDoorHC
import Derived.Test.YtihggclfifimoaaGreatDoorND
set_option linter.unusedSectionVars false
set_option maxRecDepth 100000
namespace Go.Proofs.YtihggclfifimoaaGreatDoor
open Go Go.Am Classical
theorem xHE.rbX {p:Prop}(h:p:=by first|exact Rb.cells (Rds.same (qq _)) rfl|fail):p:=h
open xHE
variable [GT]
theorem Gd {m:Mpg}(hm:m.to.length<=9223372036854775807):Pu Tryz.prog 412 [.agg (iM m)] (boo (decide (jW m))):=by
 refine pv Tryz.func412 ?_;repeat' ((conv=>whnf);first|exact kQ|(refine bk ?_ ?_<;>intro _<;>try(exfalso;omega))|refine stq ?_)
 refine aH.by aA T0 (λk:Nat=>⟨tmp 21 [(1,.ptr 0 0),(3,i64 (k:Int))],⟨1,[(0,.cells (iM m) true)]⟩⟩)
  (λk=>k<=m.to.length∧∀ i (h:i<m.to.length),i<k->cpQ m.to[i]) (λk=>m.to.length-k) 0 ⟨by omega,λ_ _ h=>by omega⟩ ?_ ?_
 ·exact lq [(0,_)] []
 intro k ⟨h3,h4⟩;by_cases hk:k<m.to.length
 ·repeat' ((conv=>whnf);first|exact kQ|(refine bk ?_ ?_<;>intro _<;>try(exfalso;omega))|refine stq ?_|refine cd dD (λ_=>?_) (λ_=>?_)|fail)
  all_goals(conv=>whnf)
  all_goals first
   | exact aE.no (λhc=>by rename_i h;exact h (hc.2 k hk))
   | (refine⟨k+1,⟨by omega,ad om h4 asm⟩,by omega,?_⟩
      exact lq [(0,_)] [])
 ·repeat' ((conv=>whnf);first|exact kQ|(refine bk ?_ ?_<;>intro _<;>try(exfalso;omega))|refine stq ?_|refine cd dD (λ_=>?_) (λ_=>?_)|fail)
  all_goals(conv=>whnf)
  all_goals first
   | exact aE.no (λhc=>by rename_i h;exact h hc.1)
   | exact aE.yes ⟨by assumption,fp om h4⟩
theorem Ep {a b:Mpg}:Pu Tryz.prog 394 [.agg (iM a),.agg (iM b)] (boo (decide (bef a b))):=by
 refine pv Tryz.func394 ?_;repeat' ((conv=>whnf);first|exact kQ|(refine bk ?_ ?_<;>intro _<;>try(exfalso;omega))|refine stq ?_)
 all_goals(conv=>whnf)
 all_goals first
  | exact aE.yes (.inl om)
  | exact aE.yes (.inr ⟨by omega,by assumption⟩)
  | exact aE.no (by rintro(h|⟨h,h'⟩)<;>first|omega|contradiction)
theorem FN {l:List Mpg}(hlen:l.length<=9223372036854775806):Pu Tryz.prog 414 [ag l] (boo (decide (Tw l))):=by
 refine pv Tryz.func414 ?_;repeat' ((conv=>whnf);first|exact kQ|(refine bk ?_ ?_<;>intro _<;>try(exfalso;omega))|refine stq ?_)
 refine aH.by aA T0 (λk:Nat=>⟨tmp 40 [(0,ag l),(3,i64 (k:Int))],⟨0,[]⟩⟩)
  (λk=>k<=l.length∧∀ i (h:i<l.length),i<k->∀ j (hj:j<i),¬(l[i].frm=(l[j]'(by omega)).frm∧l[i].tag=(l[j]'(by omega)).tag)) (λk=>l.length-k) 0 ⟨by omega,λ_ _ h=>by omega⟩ ?_ ?_
 ·exact lq0
 intro k ⟨h3,h4⟩;by_cases hk:k<l.length
 ·repeat' ((conv=>whnf);first|exact kQ|(refine bk ?_ ?_<;>intro _<;>try(exfalso;omega))|refine stq ?_|fail)
  refine aH.by aA T0 (λj:Nat=>⟨tmp 40 [(0,ag l),(3,i64 (k:Int)),(4,i64 (j:Int))],⟨0,[]⟩⟩)
   (λj=>j<=k∧∀ i (h:i<k),i<j->¬(l[k].frm=(l[i]'(by omega)).frm∧l[k].tag=(l[i]'(by omega)).tag)) (λj=>k-j) 0 ⟨by omega,λ_ _ h=>by omega⟩ ?_ ?_
  ·exact lq0
  intro j ⟨h5,h6⟩;repeat' ((conv=>whnf);first|refine Idx.atS (sz:=3) (c:=iM) (by intro _;rfl) j om om ?_|refine Idx.atS (sz:=3) (c:=iM) (by intro _;rfl) k om om ?_|exact kQ|(refine bk ?_ ?_<;>intro _<;>try(exfalso;omega))|refine stq ?_)
  all_goals(conv=>whnf)
  all_goals first
   | exact aE.yes ⟨k,hk,j,by omega,by assumption,by assumption⟩
   | (refine⟨j+1,⟨by omega,ad om h6 (λhc=>by first|exact absurd hc.1 asm|exact absurd hc.2 asm)⟩,by omega,?_⟩
      exact lq0)
   | (refine⟨k+1,⟨by omega,ad om h4 (λi hi=>h6 i hi om)⟩,by omega,?_⟩
      exact lq0)
 ·repeat' ((conv=>whnf);first|exact kQ|(refine bk ?_ ?_<;>intro _<;>try(exfalso;omega))|refine stq ?_)
  all_goals(conv=>whnf)
  exact aE.no (λ⟨i,hi,j,hj,e⟩=>h4 i hi om j hj e)
noncomputable def tZ (l:List Mpg):Int:=if dI l=0 then(if Tw l then 5 else 0) else dI l
theorem uE {l:List Mpg}{e:Int}(h:dI l=e) (h0:e≠0):tZ l=e:=by rw[tZ,if_neg om,h]
theorem uns_c {l:List Mpg}(ho:E6 l):Pu Tryz.prog 393 [ag l] (i64 (tZ l)):=by
 have hlen:=ho.len;refine pv Tryz.func393 ?_;repeat' ((conv=>whnf);first|exact kQ|(refine bk ?_ ?_<;>intro _<;>try(exfalso;omega))|refine stq ?_)
 refine aH.by aA T0 (λk:Nat=>⟨tmp 54 [(0,ag l),(3,i64 (k:Int))],⟨0,[]⟩⟩)
  (λk=>k<=l.length∧∀ i (h:i<l.length),i<k->jW l[i]) (λk=>l.length-k) 0 ⟨by omega,λ_ _ h=>by omega⟩ ?_ ?_
 ·exact lq0
 intro k ⟨h3,h4⟩;by_cases hk:k<l.length
 ·have hto:=ho.to k hk;repeat' ((conv=>whnf);first|exact kQ|(refine bk ?_ ?_<;>intro _<;>try(exfalso;omega))|refine stq ?_|refine cd (Gd sd) (λ_=>?_) (λ_=>?_)|fail)
  all_goals(conv=>whnf)
  all_goals first
   | exact aE.int (uE (pE1 hk asm) om).symm
   | (refine⟨k+1,⟨by omega,ad om h4 asm⟩,by omega,?_⟩
      exact lq0)
 ·have g1:=fp (by omega:l.length<=k) h4;repeat' ((conv=>whnf);first|exact kQ|(refine bk ?_ ?_<;>intro _<;>try(exfalso;omega))|refine stq ?_|fail)
  refine aH.by aA T0 (λk:Nat=>⟨tmp 54 [(0,ag l),(4,i64 (k:Int))],⟨0,[]⟩⟩)
   (λk=>k<=l.length∧∀ i (h:i<l.length),i<k->l[i].to.length<=64) (λk=>l.length-k) 0 ⟨by omega,λ_ _ h=>by omega⟩ ?_ ?_
  ·exact lq0
  intro k ⟨h3,h4⟩;by_cases hk:k<l.length
  ·have hto:=ho.to k hk;repeat' ((conv=>whnf);first|exact kQ|(refine bk ?_ ?_<;>intro _<;>try(exfalso;omega))|refine stq ?_)
   all_goals(conv=>whnf)
   all_goals first
    | exact aE.int (uE (pE2 g1 hk om) om).symm
    | (refine⟨k+1,⟨by omega,ad om h4 om⟩,by omega,?_⟩
       exact lq0)
  ·have g2:=fp (by omega:l.length<=k) h4;repeat' ((conv=>whnf);first|exact kQ|(refine bk ?_ ?_<;>intro _<;>try(exfalso;omega))|refine stq ?_|fail)
   refine aH.by aA T0 (λk:Nat=>⟨tmp 54 [(0,ag l),(5,i64 (k:Int))],⟨0,[]⟩⟩)
    (λk=>k<=l.length∧∀ i (h:i<l.length),i<k->Ct l[i]) (λk=>l.length-k) 0 ⟨by omega,λ_ _ h=>by omega⟩ ?_ ?_
   ·exact lq0
   intro k ⟨h3,h4⟩;by_cases hk:k<l.length
   ·have htg:=ho.tag k hk;repeat' ((conv=>whnf);first|exact kQ|(refine bk ?_ ?_<;>intro _<;>try(exfalso;omega))|refine stq ?_|refine cd (Ff sd) (λ_=>?_) (λ_=>?_)|fail)
    all_goals(conv=>whnf)
    all_goals first
     | exact aE.int (uE (pE6 g1 g2 hk (by rintro(h|h)<;>first|contradiction|exact absurd h asm)) om).symm
     | (refine⟨k+1,⟨by omega,ad om h4 (by first|exact .inl asm|exact .inr asm)⟩,by omega,?_⟩
        exact lq0)
   ·repeat' ((conv=>whnf);first|exact kQ|(refine bk ?_ ?_<;>intro _<;>try(exfalso;omega))|refine stq ?_|refine cd (FN sd) (λ_=>?_) (λ_=>?_)|fail)
    all_goals(conv=>whnf)
    all_goals first
     | exact aE.int (by rename_i h;rw[tZ,if_pos (pE0 g1 g2 (fp om h4)),if_pos h])
     | exact aE.int (by rename_i h;rw[tZ,if_pos (pE0 g1 g2 (fp om h4)),if_neg h])
theorem BG {l:List Mpg}(ho:E6 l):∃ e:Int,Pu Tryz.prog 355 [ag l] (i64 e)∧(e=0↔MOk l):=by
 have hlen:=ho.len;have hu:=uns_c ho;by_cases h0:tZ l=0
 ·rw[h0] at hu
  have hp:dI l=0:=by
   rw[tZ] at h0;split at h0
   ·assumption
   ·exact h0
  refine⟨if Asc l then 0 else 4,?_,λh=>⟨hp,by split at h<;>first|assumption|omega⟩,λh=>by rw[if_pos h.2]⟩;refine pv Tryz.func355 ?_;repeat' ((conv=>whnf);first|exact kQ|(refine bk ?_ ?_<;>intro _<;>try(exfalso;omega))|refine stq ?_|refine cp hu ?_|fail)
  refine aH.by aA T0 (λk:Nat=>⟨tmp 27 [(0,ag l),(4,i64 ((k+1:Nat):Int))],⟨0,[]⟩⟩)
   (λk=>k<=l.length∧∀ i (h:i<l.length),i<=k->∀ h0:i≠0,bef (l[i-1]'(by omega)) l[i]) (λk=>l.length-k) 0 ⟨by omega,λi h hi h0=>by omega⟩ ?_ ?_
  ·exact lq0
  intro k ⟨h3,h4⟩;by_cases hk:k+1<l.length
  ·repeat' ((conv=>whnf);first|refine Idx.atS (sz:=3) (c:=iM) (by intro _;rfl) k om om ?_|refine Idx.atS (sz:=3) (c:=iM) (by intro _;rfl) (k+1) om om ?_|exact kQ|(refine bk ?_ ?_<;>intro _<;>try(exfalso;omega))|refine stq ?_|refine cd Ep (λ_=>?_) (λ_=>?_)|fail)
   all_goals(conv=>whnf)
   all_goals first
    | exact aE.int (by rename_i hb;rw[if_neg (λha:Asc l=>hb (by have:=ha (k+1) hk om;simpa using this))])
    | (rename_i hb
       refine⟨k+1,⟨by omega,λi h hi h0=>(Decidable.em (i=k+1)).elim (λhe=>by subst he;simpa using hb) (λhe=>h4 i h om h0)⟩,by omega,?_⟩
       exact lq0)
  ·repeat' ((conv=>whnf);first|exact kQ|(refine bk ?_ ?_<;>intro _<;>try(exfalso;omega))|refine stq ?_)
   all_goals(conv=>whnf)
   have ha:Asc l:=λi h h0=>h4 i h om h0
   exact aE.int (by rw[if_pos ha])
 ·refine⟨tZ l,?_,λh=>absurd h h0,λh=>by rw[tZ,if_pos h.1,if_neg h.2.once]⟩;refine pv Tryz.func355 ?_;repeat' ((conv=>whnf);first|exact kQ|(refine bk ?_ ?_<;>intro _<;>try(exfalso;omega))|refine stq ?_|refine cp hu ?_|fail)
  all_goals(conv=>whnf)
  exact aE.same rfl rfl
end Go.Proofs.YtihggclfifimoaaGreatDoor
namespace Go.Am
set_option linter.unusedVariables false
variable [GT]
theorem CW.heq {P:Program}{top:Bool}{code:Code}{tm:List D}{h k:aB}{df df':List DE}{e:Exit}{s':St}(he:Heq h k) (hw:CW P top code ⟨tm,h⟩ df e s' df'):CW P top code ⟨tm,k⟩ df e s' df':=λro m hro c a Q hf hd hQ=>
 hw ro m hro c a Q ⟨hf.rel.congr he.symm,hf.tmps⟩ hd λc' a' f1 g1 p1 d1=>hQ c' a' f1 (g1.congr he (Heq.refl _)) (λj hj=>p1 j (by have:=he.next;show j<h.next;rw[this];exact hj)) d1
theorem Y1.of_cw {P:Program}{id:Nat}{ds:List D}{h:aB}{tm tm1 tm2:List D}{ps ps1 ps2:List Tmp}{assign body as1 bd1 as2 bd2:Code}{st2:LoopState}{pend2:Option Code}{s1 s2:St}{df1 df2:List DE}{e:Exit}{jump:Option Code}
  (hg:h.get id=some (.loop .ready none tm ps assign body)) (hlen:ds.length=ps.length) (h1:CW P false assign ⟨fc ps ds tm,h⟩ [] .normal s1 df1) (hg1:s1.h.get id=some (.loop .ready none tm1 ps1 as1 bd1))
  (h2:CW P false body ⟨s1.tmps,s1.h.set id (.loop .busy none tm1 ps1 as1 bd1)⟩ df1 e s2 df2) (hg2:s2.h.get id=some (.loop st2 pend2 tm2 ps2 as2 bd2)) (hj:ki e=some jump) :
  Y1 P id ds h (.v (.bool jump.isNone)) (s2.h.set id (.loop (rM jump) jump tm2 ps2 as2 bd2)):=by
 intro c vs b R hvs hφ;have hid:id<h.next:=Nat.lt_of_not_le λhle=>by rw[R.fresh id hle] at hφ;cases hφ
 obtain⟨b0,o0,q1,_,q3⟩:=R.live _ _ hg;rw[hφ] at q1;injection q1 with q1;injection q1 with e1 e2;subst e1;subst e2
 obtain⟨_,L,l1,l2,l3,l4,l5,l6,l7⟩:=q3
 have hsz:vs.toArray.size=L.params.size:=by
  have a1:=hvs.length;have a2:L.params.toList.length=ps.length:=by rw[l5]
  simp at a2 ⊢;omega
 refine⟨_,_,_,_,run_yield l1 hsz,λro n=>roundIn_of_wpIn trivial ?_⟩;rw[vC,l5,l6,l7];have hfit:Fit c ⟨fc ps ds tm,h⟩ { tmps:=(ps.zip vs).foldl (λ(t:Array Value) p=>t.setIfInBounds p.1 p.2) L.tmps,defers:=[] }:=⟨R,j7 ps ds vs tm L.tmps hvs l4⟩;refine h1 (some b) n (λh=>by cases h) c _ _ hfit (by simp[DRs]) λc1 a1 f1 g1 p1 d1=>?_
 have e1:c1.φ id=some (b,0):=by rw[p1 id hid];exact hφ
 obtain⟨b1,o1,r1,_,r3⟩:=f1.rel.live _ _ hg1;rw[e1] at r1;injection r1 with r1;injection r1 with x1 x2;subst x1;subst x2
 obtain⟨_,L1,m1,m2,m3,m4,m5⟩:=r3;obtain⟨R2,G2⟩:=jx f1.rel (box':=.loop .busy none tm1 ps1 as1 bd1) (o':=.loop { L1 with state:=.busy }) hg1 e1 (gQ m1) λK hb=>⟨rfl,_,hb,rfl,m3,VS.keep K _ _ m4,m5⟩
 refine⟨_,run_beginRound m1 m2,?_⟩;refine h2 (some b) n (λh=>by cases h) { c1 with w:=c1.w.putObj b (.loop { L1 with state:=.busy }) } a1 _ ⟨R2,VS.keep G2.keeps _ _ f1.tmps⟩ (DRs.keep G2.keeps _ _ d1) λc3 a3 f3 g3 p3 d3=>?_
 have hid1:id<(s1.h.set id (.loop .busy none tm1 ps1 as1 bd1)).next:=by
  have:=g1.next
  show id<s1.h.next;exact Nat.lt_of_lt_of_le hid this
 have e3:c3.φ id=some (b,0):=by rw[p3 id hid1];exact e1
 obtain⟨b3,o3,t1,_,t3⟩:=f3.rel.live _ _ hg2;rw[e3] at t1;injection t1 with t1;injection t1 with x1 x2;subst x1;subst x2
 obtain⟨_,L3,n1,n2,n3,n4,n5⟩:=t3;obtain⟨R4,G4⟩:=jx f3.rel (box':=.loop (rM jump) jump tm2 ps2 as2 bd2) (o':=.loop { L3 with state:=if jump.isNone then .ready else .done,pending:=jump }) hg2 e3 (gQ n1) λK hb=>⟨rfl,_,hb,rfl,rfl,VS.keep K _ _ n4,n5⟩
 have fin:∃ v c',(Ending.returned (.bool jump.isNone))=.returned v∧c'.w=c3.w.putObj b (.loop { L3 with state:=if jump.isNone then .ready else .done,pending:=jump })∧V c' (.v (.bool jump.isNone)) v∧Rel c' (s2.h.set id (.loop (rM jump) jump tm2 ps2 as2 bd2))∧aZ c h c' (s2.h.set id (.loop (rM jump) jump tm2 ps2 as2 bd2))∧∀ j,j<h.next->c'.φ j=c.φ j:=by
  refine⟨_,_,rfl,rfl,by simp[V,c7],R4,((g1.trans G2).trans g3).trans G4,λj hj=>?_⟩;show c3.φ j=c.φ j;have hj1:j<(s1.h.set id (.loop .busy none tm1 ps1 as1 bd1)).next:=Nat.lt_of_lt_of_le hj g1.next;rw[p3 j hj1];exact p1 j hj
 cases e with
 | normal=>simp only[ki,kA] at hj;subst hj;exact⟨_,_,run_endRound none n1,fin⟩
 | ret=>simp only[ki,kA] at hj;subst hj;exact⟨_,_,run_endRound (some .ret) n1,fin⟩
 | exit x=>simp only[ki,kA] at hj;subst hj;exact⟨_,_,run_endRound (some (.exit x)) n1,fin⟩
 | goto x=>simp only[ki,kA] at hj;subst hj;exact⟨_,_,run_endRound (some (.goto x)) n1,fin⟩
 | panic x=>simp[ki] at hj
 | outgrown=>simp[ki] at hj
section
variable (P:Program) (ti:TI) (xc:XC)
noncomputable def zU (id:Nat) (K:D->HT->Nat->Bool) (e:Exit) (h:HT) (nx:Nat):Bool:=
 match ki e with
 | some jump=>h.getK id λb=>
  match b with
  | .loop _ _ tm2 ps2 as2 bd2=>h.putK id (.loop (rM jump) jump tm2 ps2 as2 bd2) λh=>K (.v (.bool jump.isNone)) h nx
  | _=>false
 | none=>false
noncomputable def zV (id n:Nat) (body:Code) (K:D->HT->Nat->Bool) (e:Exit) (t:Tr) (h:HT) (nx:Nat) (df:List DE):Bool:=
 match e with
 | .normal=>h.getK id λb=>
  match b with
  | .loop .ready none tm1 ps1 as1 bd1=>h.putK id (.loop .busy none tm1 ps1 as1 bd1) λh=>ls P ti xc n false body t h nx df λe _ h nx _=>zU id K e h nx
  | _=>false
 | _=>false
noncomputable def ju (id:Nat) (ds:List D) (h:HT) (nx:Nat) (K:D->HT->Nat->Bool):Bool:=
 h.getK id λb=>
  match b with
  | .loop .ready none tm ps assign body=>ifB (Nat.beq ds.length ps.length&&Nat.ble (fc ps ds tm).length (2 ^ dep (fc ps ds tm).length)) (vF (fc ps ds tm) 0 (Tr.full aM (dep (fc ps ds tm).length)) λt=>ls P ti xc (fc ps ds tm).length false assign t h nx [] λe t h nx df=>zV P ti xc id (fc ps ds tm).length body K e t h nx df) false
  | _=>false
noncomputable def p8 (sp:FuncId->List D->Option D) (f:Nat):XC:=
 Nat.rec (motive:=λ_=>XC) (λ_ _ _ _ _=>false) (λ_ ih k ds h nx K=>
  match k with
  | .fn g=>(match sp g ds with|some d=>K d h (nx+1)|none=>Aw P ti ih g ds h nx K)
  | .yf id=>ju P ti ih id ds h nx K) f
end
section
variable {P:Program}{ti:TI}
theorem nh {xc:XC}(hm:P.follows .mixedOrders=true) (T:TOk P ti) (X:XOk P xc){id:Nat}{ds:List D}{h:HT}{nx:Nat}{K:D->HT->Nat->Bool}(hs:ju P ti xc id ds h nx K=true):∃ d h' nx',Y1 P id ds (h.heap nx) d (h'.heap nx')∧K d h' nx'=true:=by
 unfold ju at hs;obtain⟨b,hb,hs⟩:=HT.getK_some hs;split at hs
 ·rename_i tm ps assign body;rcases aP hs with⟨hc,hs⟩|⟨_,h0⟩
  ·simp only[kC,Nat.beq_eq,Nat.ble_eq] at hc;obtain⟨hlen,hc2⟩:=hc;generalize hL:fc ps ds tm=L at *
   obtain⟨t,t1,t2,hs⟩:=mW (n:=L.length) (k:=dep L.length) hc2 (ds:=L) (p:=[]) (Tr.perf_full (zB _)) si (by
    apply List.ext_getElem?;intro i;by_cases hi:i<L.length
    ·rw[jD hi,Tr.get_full];simp[hi]
    ·rw[List.getElem?_eq_none (by rw[fH];omega),List.getElem?_eq_none (by simp;omega)]) hs
   have t3:tmL L.length t=L:=by rw[t1];simp
   obtain⟨e,t',h',nx',df',k1,k2,k3⟩:=bN hm T X hc2 assign t h nx [] _ hs t2;unfold zV at k1;split at k1
   ·obtain⟨b1,hb1,k1⟩:=HT.getK_some k1;split at k1
    ·rename_i tm1 ps1 as1 bd1;rw[HT.putK_eq] at k1;obtain⟨e2,t'',h'',nx'',df'',q1,q2,q3⟩:=bN hm T X hc2 body t' _ nx' df' _ k1 k2;unfold zU at q1;split at q1
     ·rename_i jump hj;obtain⟨b2,hb2,q1⟩:=HT.getK_some q1;split at q1
      ·rename_i st2 pend2 tm2 ps2 as2 bd2;rw[HT.putK_eq] at q1;have hg1:(h'.heap nx').get id=some (.loop .ready none tm1 ps1 as1 bd1):=by rw[HT.heap_get];exact hb1
       have hg2:(h''.heap nx'').get id=some (.loop st2 pend2 tm2 ps2 as2 bd2):=by rw[HT.heap_get];exact hb2
       have w1:CW P false assign ⟨fc ps ds tm,h.heap nx⟩ [] .normal (sT L.length t' h' nx') df':=by
        rw[hL];have:=k3
        rw[show sT L.length t h nx=⟨L,h.heap nx⟩ by simp only[sT,t3]] at this;exact this
       have w2:CW P false body ⟨(sT L.length t' h' nx').tmps,(sT L.length t' h' nx').h.set id (.loop .busy none tm1 ps1 as1 bd1)⟩ df' e2 (sT L.length t'' h'' nx'') df'':=CW.heq (Heq.set hb1).symm q3;have:=Y1.of_cw (id:=id) (ds:=ds) (h:=h.heap nx) (by rw[HT.heap_get];exact hb) hlen w1 hg1 w2 hg2 hj
       exact⟨_,_,nx'',Y1.congr (Heq.refl _) (Heq.set hb2) this,q1⟩
      ·cases q1
     ·cases q1
    ·cases k1
   ·cases k1
  ·cases h0
 ·cases hs
theorem lC {sp:FuncId->List D->Option D}(hm:P.follows .mixedOrders=true) (T:TOk P ti) (S:pN P sp):∀ f,XOk P (p8 P ti sp f)
 | 0=>λk ds h nx K hs=>by cases hs
 | f+1=>λk ds h nx K hs=>by
  cases k with
  | yf id=>exact nh hm T (lC hm T S f) (show ju P ti (p8 P ti sp f) id ds h nx K=true from hs)
  | fn g=>
   replace hs:(match sp g ds with|some d=>K d h (nx+1)|none=>Aw P ti (p8 P ti sp f) g ds h nx K)=true:=hs
   split at hs
   ·rename_i d hd;exact⟨d,h,nx+1,AC1.bump (S g ds d hd _),hs⟩
   ·exact zY hm T (lC hm T S f) hs
theorem Pu.of_y {sp:FuncId->List D->Option D}(hm:P.follows .mixedOrders=true) (T:TOk P ti) (S:pN P sp){f:Nat}{g:FuncId}{ds:List D}{d:D}(hn:aK ds=true) (hr:p8 P ti sp f (.fn g) ds .emp 0 (λd1 h1 _=>vq h1 100000 d1 d)=true):Pu P g ds d:=by
 obtain⟨d1,h1,nx1,k1,k2⟩:=lC hm T S f _ _ _ _ _ hr;exact Pu.of_ac hn k1 (mo _ _ _ k2)
end
end Go.Am
namespace Go.Proofs.YtihggclfifimoaaGreatDoor
open Go Go.Am Classical
set_option linter.unusedVariables false
theorem cq:pN Tryz.prog (λ_ _=>none):=λ_ _ _ h=>by cases h
noncomputable def zD (t:TypeId):D:=match pH Tryz.prog t with|some a=>.agg a.zero|none=>.any
theorem bnd0:Pu Tryz.prog 14 [zD 49,zD 52,aO] (i64 0):=
 Pu.of_y (sp:=λ_ _=>none) aA T0 cq (f:=30) (by kernel_rfl) (by kernel_rfl)
theorem tab0:Pu Tryz.prog 15 [zD 61,aF [8,4],aO] (i64 0):=
 Pu.of_y (sp:=λ_ _=>none) aA T0 cq (f:=30) (by kernel_rfl) (by kernel_rfl)
end Go.Proofs.YtihggclfifimoaaGreatDoor
namespace Go.Proofs.YtihggclfifimoaaGreatDoor
open Go Go.Am Classical
set_option linter.unusedVariables false
theorem xXN.rdX {p:Prop}(h:p:=by first|exact Rd.frzp rfl rfl (Rds.same hnb)|exact Rd.same rfl|exact Rd.same (aC t)|exact Rd.frz rfl rfl (kD rfl) (Rds.same rfl)|fail):p:=h
theorem xXN.rbX {p:Prop}(h:p:=by first|exact Rb.iter (Res.same he)|exact Rb.iter (Res.same λp hp=>(hl p (List.mem_of_mem_eraseIdx hp)).1)|fail):p:=h
open xXN
section
variable {inst:GT}
theorem Pk.of_ac {P:Program}{g:FuncId}{ds:List D}{d0:D}{h1:aB}{d:Nat->D}{bs:Nat->List (Nat×Box)}{olds:List Nat}(hn:aK ds=true) (hp:AC1 P g ds ⟨0,[]⟩ d0 h1) (hr:E5 h1 d0 olds d bs):Pk P g ds olds.length d bs:=λh0=>by
 obtain⟨hent,hcall⟩:=hp;refine⟨hent,λc vs R hvs=>?_⟩;have R0:Rel { c with φ:=λ_=>none } ⟨0,[]⟩:=⟨R.size,λ_ _=>rfl,λid box hg=>by simp[aB.get,ac] at hg,λid id' box box' b o o' hg=>by simp[aB.get,ac] at hg,GT.keep (c:=c) (λ_ h=>h) (λ_ _=>rfl) R.inv⟩;have hvs0:VS { c with φ:=λ_=>none } ds vs:=VS.move (c:=c) (c':={ c with φ:=λ_=>none }) (λb hb=>⟨hb,rfl⟩) ds vs hn hvs;refine(hcall _ vs R0 hvs0).mono ?_;rintro e w' ⟨v,c1,rfl,rfl,v1,r1,g1,_⟩;obtain⟨c',k1,k2,k3,k4,k5⟩:=DT R r1 g1 hr v1;exact⟨v,c',rfl,k1,k2,k3,k4,k5⟩
noncomputable def mapB (es:List (D×D)) (d:D) (h:HT):Bool:=
 match d with
 | .map i=>h.getK i λb=>match b with|.map es'=>xI es' es|_=>false
 | _=>false
theorem Pk.of_ym {P:Program}{ti:TI}{sp:FuncId->List D->Option D}(hm:P.follows .mixedOrders=true) (T:TOk P ti) (S:pN P sp){f:Nat}{g:FuncId}{ds:List D}{es:List (D×D)}(hn:aK ds=true) (he:∀ p∈es,aL p.1=true∧aL p.2=true) (hr:p8 P ti sp f (.fn g) ds .emp 0 (λd1 h1 _=>mapB es d1 h1)=true):Pk P g ds 1 (λk=>.map k) (λk=>[(k,.map es)]):=by
 obtain⟨d1,h1,nx1,k1,k2⟩:=lC hm T S f _ _ _ _ _ hr;unfold mapB at k2;split at k2
 ·rename_i i;obtain⟨b,hb,k2⟩:=HT.getK_some k2;split at k2
  ·have e:=uf k2;subst e;exact Pk.of_ac (olds:=[i]) hn k1 ⟨by simp,λn=>.map (by simp[sgn]),λn=>.cons (id:=i) (by simp[sgn]) (by rw[HT.heap_get];exact hb) si (.map (.same he)) .nil⟩
  ·cases k2
 ·cases k2
end
theorem dist_0:Pk Tryz.prog 79 [aO] 1 (λn=>.fn (.func 153) [] [.ptr n 0]) (λn=>[(n,.cells [aO] true)]):=by
 refine Pk.of_v aA T0 Tryz.func79 rfl rfl rfl ?_;repeat' ((conv=>whnf);first|exact kQ|(refine bk ?_ ?_<;>intro _<;>try(exfalso;omega))|refine stq ?_)
 all_goals(conv=>whnf)
 exact⟨[0],rfl,⟨by simp,λn=>.fn .nil (.cons (.ptr (by simp[sgn])) .nil),λn=>.cons (id:=0) (by simp[sgn]) rfl rfl (.cells (.cons (.same rfl) .nil) rfl) .nil⟩⟩
theorem zA {t:List Int}:Pk Tryz.prog 79 [aF t] 1 (λn=>.fn (.func 153) [] [.ptr n 0]) (λn=>[(n,.cells [aF t] true)]):=by
 refine Pk.of_v aA T0 Tryz.func79 rfl rfl (aD (aC t) rfl) ?_;repeat' ((conv=>whnf);first|exact kQ|(refine bk ?_ ?_<;>intro _<;>try(exfalso;omega))|refine stq ?_)
 all_goals(conv=>whnf)
 exact⟨[0],rfl,⟨by simp,λn=>.fn .nil (.cons (.ptr (by simp[sgn])) .nil),λn=>.cons (id:=0) (by simp[sgn]) rfl rfl (.cells (.cons (.same (aC t)) .nil) rfl) .nil⟩⟩
theorem Ao {u:List Int}{s:D}{f:Int}{k:Bool}{es:List (D×D)}(hs:aL s=true) (he:∀ p∈es,aL p.1=true∧aL p.2=true)
  (hw:Pu Tryz.prog 75 [aF [1,1]] (i64 1)) (hc:Pu Tryz.prog 78 [.fn (.func 153) [] [.iptr [aO]]] (aF u)) (hr:Pk Tryz.prog 152 [.agg [aO,aO,aO,i64 f,boo k,s],aF u] 1 (λn=>.map n) (λn=>[(n,.map es)])) (hes:∀ e∈es,e.2=i64 1) :
  Pu Tryz.prog 76 [.agg [aO,aO,aO,i64 f,boo k,s],aO] (i64 1):=by
  have hnb:aK [aO,aO,aO,i64 f,boo k,s]=true:=by simp[aK,aL,hs]
  refine Pu.of_v aA T0 Tryz.func76 rfl rfl (by simp[aK,aL,hs]) ?_;repeat' ((conv=>whnf);first|refine cm.weak (x:=Code.seq (Code.seq (Code.region 2 _ true) _) _) aA T0 (s0:=⟨tmp 23 [(1,aO),(2,.iptr [aO,aO,aO,i64 f,boo k,s]),(4,i64 0),(5,i64 1)],⟨0,[]⟩⟩) ?_ ?_|exact kQ|(refine bk ?_ ?_<;>intro _<;>try(exfalso;omega))|refine stq ?_|refine aX.byW (id:=2) aA T0 [0,0,2,6,15,31] (by kernel_rfl) ?_|refine Cll.pk dist_0 ?_|refine Cll.give (.cons (.fn .nil (.cons (.frzp rfl rfl (.cons (.same rfl) .nil)) .nil)) .nil) hc ?_|refine Cll.pk hr ?_|refine Chk.mk ⟨_,rfl⟩ ?_|refine Chk.mk (λ_=>rfl) ?_|fail)
  all_goals(conv=>whnf)
  ·exact lq [] [0]
  refine aH.by aA T0 (λl:List (D×D)=>⟨tmp 23 [(5,i64 1),(13,.ptr 0 0)],⟨1,[(0,.iter l none)]⟩⟩) (λl=>∀ p∈l,(aL p.1=true∧aL p.2=true)∧p.2=i64 1) (λl=>l.length) es (λp hp=>⟨he p hp,hes p hp⟩) ?_ ?_
  ·exact lq [(0,5)] []
  intro l hl;repeat' ((conv=>whnf);first|exact kQ|(refine bk ?_ ?_<;>intro _<;>try(exfalso;omega))|refine stq ?_|(refine zS.mk (λhl0=>?_) (λj hj=>?_);rotate_left;rw[(hl _ (kM hj)).2])|refine Cll.borrow (.cons (Rd.frz rfl rfl (kD rfl) (Rds.same rfl)) .nil) hw ?_|fail)
  all_goals(conv=>whnf)
  all_goals first
   | exact aE.int rfl
   | (refine⟨l.eraseIdx j,λp hp=>hl p (List.mem_of_mem_eraseIdx hp),by rw[List.length_eraseIdx_of_lt hj];omega,?_⟩
      exact lq [(0,0)] [])
theorem An {t:List Int}{u:List Int}{s:D}{f:Int}{k:Bool}{es:List (D×D)}(hs:aL s=true) (he:∀ p∈es,aL p.1=true∧aL p.2=true)
  (hw:Pu Tryz.prog 75 [aF [1,1]] (i64 1)) (hc:Pu Tryz.prog 78 [.fn (.func 153) [] [.iptr [aF t]]] (aF u)) (hr:Pk Tryz.prog 152 [.agg [aO,aO,aO,i64 f,boo k,s],aF u] 1 (λn=>.map n) (λn=>[(n,.map es)])) (hes:∀ e∈es,e.2=i64 1) :
  Pu Tryz.prog 76 [.agg [aO,aO,aO,i64 f,boo k,s],aF t] (i64 1):=by
  have hnb:aK [aO,aO,aO,i64 f,boo k,s]=true:=by simp[aK,aL,hs]
  refine Pu.of_v aA T0 Tryz.func76 rfl rfl (by simp[aK,aL,hs,aC]) ?_;repeat' ((conv=>whnf);first|refine cm.weak (x:=Code.seq (Code.seq (Code.region 2 _ true) _) _) aA T0 (s0:=⟨tmp 23 [(1,aF t),(2,.iptr [aO,aO,aO,i64 f,boo k,s]),(4,i64 0),(5,i64 1)],⟨0,[]⟩⟩) ?_ ?_|exact kQ|(refine bk ?_ ?_<;>intro _<;>try(exfalso;omega))|refine stq ?_|refine aX.byW (id:=2) aA T0 [0,0,2,6,15,31] (by kernel_rfl) ?_|refine Cll.pk zA ?_|refine Cll.give (.cons (.fn .nil (.cons (.frzp rfl rfl (.cons (.same (aC t)) .nil)) .nil)) .nil) hc ?_|refine Cll.pk hr ?_|refine Chk.mk ⟨_,rfl⟩ ?_|refine Chk.mk (λ_=>rfl) ?_|fail)
  all_goals(conv=>whnf)
  ·exact lq [] [0]
  refine aH.by aA T0 (λl:List (D×D)=>⟨tmp 23 [(5,i64 1),(13,.ptr 0 0)],⟨1,[(0,.iter l none)]⟩⟩) (λl=>∀ p∈l,(aL p.1=true∧aL p.2=true)∧p.2=i64 1) (λl=>l.length) es (λp hp=>⟨he p hp,hes p hp⟩) ?_ ?_
  ·exact lq [(0,5)] []
  intro l hl;repeat' ((conv=>whnf);first|exact kQ|(refine bk ?_ ?_<;>intro _<;>try(exfalso;omega))|refine stq ?_|(refine zS.mk (λhl0=>?_) (λj hj=>?_);rotate_left;rw[(hl _ (kM hj)).2])|refine Cll.borrow (.cons (Rd.frz rfl rfl (kD rfl) (Rds.same rfl)) .nil) hw ?_|fail)
  all_goals(conv=>whnf)
  all_goals first
   | exact aE.int rfl
   | (refine⟨l.eraseIdx j,λp hp=>hl p (List.mem_of_mem_eraseIdx hp),by rw[List.length_eraseIdx_of_lt hj];omega,?_⟩
      exact lq [(0,0)] [])
abbrev d8:List Rng:=[⟨4449,4469⟩,⟨4520,4546⟩]
theorem sec_0 (hu:Pu Tryz.prog 267 [.agg [aO,aO,aO]] (.agg [aO,aO,aO])) (hc:Pk Tryz.prog 268 [.agg [aO,aO,aO]] 1 (λn=>.map n) (λn=>[(n,.map [])])) (hm:Pu Tryz.prog 270 [bD d8] (fJ d8)):Pu Tryz.prog 150 [.agg [aO,aO,aO]] (fJ d8):=by
 refine pv Tryz.func150 ?_;repeat' ((conv=>whnf);first|refine cm.weak (x:=Code.seq (Code.region 6 _ false) _) aA T0 (s0:=⟨tmp 26 [(2,.ptr 0 0),(3,bD d8)],⟨1,[(0,.cells [aO] true)]⟩⟩) ?_ ?_|exact kQ|(refine bk ?_ ?_<;>intro _<;>try(exfalso;omega))|refine stq ?_|refine cp hu ?_|refine cp hm ?_|refine Cll.pk hc ?_|refine aH.times aA T0 1 ?_|(refine zS.mk (λhl0=>?_) (λj hj=>absurd hj (Nat.not_lt_zero _)))|fail)
 all_goals(conv=>whnf)
 ·exact lq [(0,1)] [4]
 exact aE.same rfl rfl
end Go.Proofs.YtihggclfifimoaaGreatDoor
