/-
  Contracts over data: the reference's tables and full decompositions.
-/
import Derived.Test.YtihggclfifimoaaGreatDoorUJ
import Derived.Test.YtihggclfifimoaaGreatDoorI5
set_option linter.unusedSectionVars false
namespace Go.Proofs.YtihggclfifimoaaGreatDoor
open Go Go.Am Classical
set_option maxHeartbeats 8000000
set_option maxRecDepth 100000
section
set_option linter.unusedVariables false
theorem xUI.rdX {p:Prop}(h:p:=by first|exact Rd.same (bH _)|exact Rd.same (aC _)|fail):p:=h
theorem xUI.rbX {p:Prop}(h:p:=by first|exact rbZs (f:=aF) (a:=[]) rfl|exact rbZn|exact rbW rfl|exact Rb.cells (Rds.eqs (by first|(rw[List.map_set];done)|fail) (uM _)) rfl|fail):p:=h
open xUI
theorem zp {n:Nm}(hn:n.ok):Pu Tryz.prog 163 [nmD n] (nmD (okN n)):=by
 obtain⟨e,h1,h2⟩:=v8 hn;rw[vt] at h2;refine pv Tryz.func163 ?_;by_cases he:e=0
 ·subst he;rw[show okN n=n from if_pos (h2.1 rfl)];repeat' ((conv=>whnf);first|exact kQ|(refine bk ?_ ?_<;>intro _<;>try(exfalso;omega))|refine stq ?_|refine cp h1 ?_|fail)
  all_goals(conv=>whnf)
  exact aE.same (aQ n) rfl
 ·rw[show okN n=nm0 from if_neg λhg=>he (h2.2 hg)];repeat' ((conv=>whnf);first|exact kQ|(refine bk ?_ ?_<;>intro _<;>try(exfalso;omega))|refine stq ?_|refine cp h1 ?_|fail)
  all_goals(conv=>whnf)
  all_goals first
   | exact⟨.agg (.cons .nil (.cons .nil (.cons .nil .nil)))⟩
   | contradiction
theorem yc {n:Nm}(hn:n.ok):Pu Tryz.prog 277 [nmD n] (nmD (okN n)):=by
 obtain⟨e,h1,h2⟩:=v8 hn;rw[vt] at h2;refine pv Tryz.func277 ?_;by_cases he:e=0
 ·subst he;rw[show okN n=n from if_pos (h2.1 rfl)];repeat' ((conv=>whnf);first|exact kQ|(refine bk ?_ ?_<;>intro _<;>try(exfalso;omega))|refine stq ?_|refine cp h1 ?_|fail)
  all_goals(conv=>whnf)
  exact aE.same (aQ n) rfl
 ·rw[show okN n=nm0 from if_neg λhg=>he (h2.2 hg)];repeat' ((conv=>whnf);first|exact kQ|(refine bk ?_ ?_<;>intro _<;>try(exfalso;omega))|refine stq ?_|refine cp h1 ?_|fail)
  all_goals(conv=>whnf)
  all_goals first
   | exact⟨.agg (.cons .nil (.cons .nil (.cons .nil .nil)))⟩
   | contradiction
def GdT (n:Nm) (k:Bool) (o:List (List Int)):Prop:=∀ i (h:i<o.length),∀ h':i<n.dc.length,o[i].length<=(bA (once n k) n.dc[i].frm).length
theorem GdT.len {n:Nm}(hG:NmG n){k:Bool}{o:List (List Int)}(hl:o.length=n.dc.length) (h:GdT n k o) (j:Nat):(o.getD j []).length<=64:=by
 rcases Nat.lt_or_ge j o.length with hj|hj
 ·rw[List.getD_eq_getElem?_getD,List.getElem?_eq_getElem hj,Option.getD_some];exact Nat.le_trans (h j hj om) (lenB hG k _)
 ·rw[List.getD_eq_getElem?_getD,List.getElem?_eq_none hj];simp
theorem GdT.set {n:Nm}(hG:NmG n){k:Bool}{o:List (List Int)}(hl:o.length=n.dc.length) (h:GdT n k o){i:Nat}(hi:i<n.dc.length):GdT n k (o.set i (gP n.dc k o i)):=λj hj h'=>by
 rw[List.getElem_set];split
 ·rename_i e;subst e;exact vO hG o hl h i hi h'
 ·exact h j _ h'
theorem qQ {α:Type}{d:α}:∀ {o:List α}{i:Nat},i<o.length->o.set i (o.getD i d)=o
 | x::o,0,_=>rfl
 | x::o,i+1,h=>by rw[List.set_cons_succ,List.getD_cons_succ,qQ (by simpa using h)]
theorem rbZn {n:Nat}{h:aB}{fz:Nat->Bool}{σ:Nat->Option Nat}:Rb h fz σ (.cells (cx [aO] ((n:Int)).toNat) true) (.cells ((List.replicate n ([]:List Int)).map aF) true):=by
 rw[Int.toNat_natCast,cY,List.map_replicate];refine .cells ?_ rfl
 induction n with
 | zero=>exact .nil
 | succ n ih=>rw[List.replicate_succ,List.replicate_succ];exact .cons .nil ih
theorem FO {n:Nm}{k:Bool}(hG:NmG n) (hn:n.ok):Pu Tryz.prog 391 [ag n.dc,boo k] (iu (nq n.dc k)):=by
 have hlen:=hn.dc;refine pv Tryz.func391 ?_;cases k
 ·repeat' ((conv=>whnf);first|exact kQ|(refine bk ?_ ?_<;>intro _<;>try(exfalso;omega))|refine stq ?_)
  refine aH.by2 aA T0 (λ(r:Nat) (o:List (List Int))=>⟨tmp 45 [(0,ag n.dc),(1,boo false),(5,.sl 0 0 n.dc.length n.dc.length 1 true),(6,i64 (r:Int))],⟨1,yW o⟩⟩) (λr o=>(r<=n.dc.length∧GdT n false o)∧o=jk (gP n.dc false) n.dc.length (List.replicate n.dc.length []) r) (λr _=>n.dc.length-r) 0 (List.replicate n.dc.length []) ⟨⟨by omega,λi h h'=>by simp⟩,rfl⟩ ?_ ?_
  ·exact lq [(0,_)] []
  intro r o ⟨⟨h1,hgd0⟩,h2⟩;have ho:o.length=n.dc.length:=by rw[h2];simp
  by_cases hr:r<n.dc.length
  ·repeat' ((conv=>whnf);first|exact kQ|(refine bk ?_ ?_<;>intro _<;>try(exfalso;omega))|refine stq ?_)
   refine aH.by2 aA T0 (λ(i:Nat) (o':List (List Int))=>⟨tmp 45 [(0,ag n.dc),(1,boo false),(5,.sl 0 0 n.dc.length n.dc.length 1 true),(6,i64 (r:Int)),(7,i64 (i:Int))],⟨1,yW o'⟩⟩) (λi o'=>(i<=n.dc.length∧GdT n false o')∧o'=rnd (gP n.dc false) o i) (λi _=>n.dc.length-i) 0 o ⟨⟨by omega,hgd0⟩,rfl⟩ ?_ ?_
   ·exact lq [(0,_)] []
   intro i o' ⟨⟨h3,hgd⟩,h4⟩;have ho':o'.length=n.dc.length:=by rw[h4];simp[ho]
   by_cases hi:i<n.dc.length
   ·have hti:=hn.to i hi;have hgn:=hgd.set hG ho' hi;have hrn:rnd (gP n.dc false) o (i+1)=o'.set i (gP n.dc false o' i):=by rw[h4];rfl
    repeat' ((conv=>whnf);first|exact kQ|(refine bk ?_ ?_<;>intro _<;>try(exfalso;omega))|refine stq ?_|refine cA.at i rfl om ?_|refine Put.one (by simp;omega) ?_|refine Cll.emb (oc (k:=false) hn.dc ho' hti (hgd.len hG ho')) [(0,0)] [] (aF (eZ n.dc false o' n.dc[i].to)) [(0,.cells (o'.map aF) true)] [] rfl cZ bxA rdA bxA reA ?_|fail)
    all_goals(conv=>whnf)
    all_goals first
     | (have hv:gP n.dc false o' i=eZ n.dc false o' n.dc[i].to:=by unfold gP;rw[gDn hi];exact if_pos (by first|exact .inl rfl|exact .inr asm)
        rw[hv] at hrn hgn;refine⟨i+1,o'.set i (eZ n.dc false o' n.dc[i].to),⟨⟨by omega,hgn⟩,hrn.symm⟩,by omega,?_⟩
        exact lq [(0,_)] [])
     | (have hv:gP n.dc false o' i=o'.getD i []:=by unfold gP;rw[gDn hi];exact if_neg (by rintro(h|h)<;>first|exact Bool.noConfusion h|exact absurd h asm)
        rw[hv,qQ om] at hrn hgn;refine⟨i+1,o',⟨⟨by omega,hgn⟩,hrn.symm⟩,by omega,?_⟩
        exact lq [(0,_)] [])
     | fail
   ·have hi':i=n.dc.length:=by omega
    subst hi';repeat' ((conv=>whnf);first|exact kQ|(refine bk ?_ ?_<;>intro _<;>try(exfalso;omega))|refine stq ?_)
    all_goals(conv=>whnf)
    refine⟨r+1,o',⟨⟨by omega,hgd⟩,by rw[h4,h2];rfl⟩,by omega,?_⟩;exact lq [(0,_)] []
  ·have hr':r=n.dc.length:=by omega
   subst hr';repeat' ((conv=>whnf);first|exact kQ|(refine bk ?_ ?_<;>intro _<;>try(exfalso;omega))|refine stq ?_)
   all_goals(conv=>whnf)
   exact aE.frz1 (l:=nq n.dc false) (f:=aF) rfl (by rw[h2];rfl) (by simp[nq]) (λ_=>aC _) rfl
 ·repeat' ((conv=>whnf);first|exact kQ|(refine bk ?_ ?_<;>intro _<;>try(exfalso;omega))|refine stq ?_)
  refine aH.by2 aA T0 (λ(r:Nat) (o:List (List Int))=>⟨tmp 45 [(0,ag n.dc),(1,boo true),(5,.sl 0 0 n.dc.length n.dc.length 1 true),(6,i64 (r:Int))],⟨1,yW o⟩⟩) (λr o=>(r<=n.dc.length∧GdT n true o)∧o=jk (gP n.dc true) n.dc.length (List.replicate n.dc.length []) r) (λr _=>n.dc.length-r) 0 (List.replicate n.dc.length []) ⟨⟨by omega,λi h h'=>by simp⟩,rfl⟩ ?_ ?_
  ·exact lq [(0,_)] []
  intro r o ⟨⟨h1,hgd0⟩,h2⟩;have ho:o.length=n.dc.length:=by rw[h2];simp
  by_cases hr:r<n.dc.length
  ·repeat' ((conv=>whnf);first|exact kQ|(refine bk ?_ ?_<;>intro _<;>try(exfalso;omega))|refine stq ?_)
   refine aH.by2 aA T0 (λ(i:Nat) (o':List (List Int))=>⟨tmp 45 [(0,ag n.dc),(1,boo true),(5,.sl 0 0 n.dc.length n.dc.length 1 true),(6,i64 (r:Int)),(7,i64 (i:Int))],⟨1,yW o'⟩⟩) (λi o'=>(i<=n.dc.length∧GdT n true o')∧o'=rnd (gP n.dc true) o i) (λi _=>n.dc.length-i) 0 o ⟨⟨by omega,hgd0⟩,rfl⟩ ?_ ?_
   ·exact lq [(0,_)] []
   intro i o' ⟨⟨h3,hgd⟩,h4⟩;have ho':o'.length=n.dc.length:=by rw[h4];simp[ho]
   by_cases hi:i<n.dc.length
   ·have hti:=hn.to i hi;have hgn:=hgd.set hG ho' hi;have hrn:rnd (gP n.dc true) o (i+1)=o'.set i (gP n.dc true o' i):=by rw[h4];rfl
    repeat' ((conv=>whnf);first|exact kQ|(refine bk ?_ ?_<;>intro _<;>try(exfalso;omega))|refine stq ?_|refine cA.at i rfl om ?_|refine Put.one (by simp;omega) ?_|refine Cll.emb (oc (k:=true) hn.dc ho' hti (hgd.len hG ho')) [(0,0)] [] (aF (eZ n.dc true o' n.dc[i].to)) [(0,.cells (o'.map aF) true)] [] rfl cZ bxA rdA bxA reA ?_|fail)
    all_goals(conv=>whnf)
    all_goals first
     | (have hv:gP n.dc true o' i=eZ n.dc true o' n.dc[i].to:=by unfold gP;rw[gDn hi];exact if_pos (by first|exact .inl rfl|exact .inr asm)
        rw[hv] at hrn hgn;refine⟨i+1,o'.set i (eZ n.dc true o' n.dc[i].to),⟨⟨by omega,hgn⟩,hrn.symm⟩,by omega,?_⟩
        exact lq [(0,_)] [])
     | (have hv:gP n.dc true o' i=o'.getD i []:=by unfold gP;rw[gDn hi];exact if_neg (by rintro(h|h)<;>first|exact Bool.noConfusion h|exact absurd h asm)
        rw[hv,qQ om] at hrn hgn;refine⟨i+1,o',⟨⟨by omega,hgn⟩,hrn.symm⟩,by omega,?_⟩
        exact lq [(0,_)] [])
     | fail
   ·have hi':i=n.dc.length:=by omega
    subst hi';repeat' ((conv=>whnf);first|exact kQ|(refine bk ?_ ?_<;>intro _<;>try(exfalso;omega))|refine stq ?_)
    all_goals(conv=>whnf)
    refine⟨r+1,o',⟨⟨by omega,hgd⟩,by rw[h4,h2];rfl⟩,by omega,?_⟩;exact lq [(0,_)] []
  ·have hr':r=n.dc.length:=by omega
   subst hr';repeat' ((conv=>whnf);first|exact kQ|(refine bk ?_ ?_<;>intro _<;>try(exfalso;omega))|refine stq ?_)
   all_goals(conv=>whnf)
   exact aE.frz1 (l:=nq n.dc true) (f:=aF) rfl (by rw[h2];rfl) (by simp[nq]) (λ_=>aC _) rfl
theorem FR {n:Nm}{k:Bool}(hG:NmG n) (j:Nat):((nq n.dc k).getD j []).length<=64:=by
 have:GdT n k (nq n.dc k):=vp (gP n.dc k) (Good:=λi v=>∀ h':i<n.dc.length,v.length<=(bA (once n k) n.dc[i].frm).length) (N:=n.dc.length) (o:=List.replicate n.dc.length []) si (λi h h'=>by simp) (λo ho hg i hi=>vO hG o ho hg i hi) n.dc.length
 exact this.len hG si j
theorem full_c {n:Nm}{k:Bool}{t:List Int}(hG:NmG n) (hn:n.ok) (ht:t.length<=1000):Pu Tryz.prog 353 [nmD n,aF t,boo k] (aF (eZ n.dc k (nq n.dc k) t)):=by
 have h1:=FO (k:=k) hG hn;have h2:=yY (k:=k) hn.dc (tabL_len n.dc k) ht (FR hG);refine pv Tryz.func353 ?_;repeat' ((conv=>whnf);first|exact kQ|(refine bk ?_ ?_<;>intro _<;>try(exfalso;omega))|refine stq ?_|refine cp h1 ?_|refine cp h2 ?_|fail)
 all_goals(conv=>whnf)
 exact aE.same (aC _) rfl
theorem Fi {n:Nm}{k:Bool}{c:Int}(hn:n.ok):Pu Tryz.prog 282 [nmD n,i64 c,boo k] (aF (bA (once (okN n) k) c)):=by
 have h1:=zp hn;have hN:=qn hn;have h2:=full_c (k:=k) (t:=[c]) hN.g hN.ok si;rw[Cu hN.g c] at h2;refine pv Tryz.func282 ?_;repeat' ((conv=>whnf);first|exact kQ|(refine bk ?_ ?_<;>intro _<;>try(exfalso;omega))|refine stq ?_|refine cp h1 ?_|refine Cll.give (.cons (.same (aQ _)) (.cons (Rd.frzI (l:=[c]) rfl rfl rfl rfl rfl) (.cons .imm .nil))) h2 ?_|refine Cll.give (.cons (.same (aQ _)) (.cons (Rd.frzI (l:=[c]) rfl rfl rfl rfl rfl) (.cons (.same rfl) .nil))) h2 ?_|fail)
 all_goals(conv=>whnf)
 exact aE.same (aC _) rfl
end
section
set_option linter.unusedVariables false
theorem xUH.rbX {p:Prop}(h:p:=by first|exact rbN|fail):p:=h
open xUH
theorem Dt {a b:Int}:[i64 a]=[i64 b]->i64 (hk b)=i64 (hk a):=λe=>by
 have:a=b:=by injection e with e _;injection e with e;injection e
 rw[this]
theorem Fh {a b:Int}:Pu Tryz.prog 350 [i64 a,i64 b] (hcD a b):=by
 have h1:=jH (c:=a);have h2:=jH (c:=b);have ka:=aj a;have kb:=aj b;refine pv Tryz.func350 ?_;by_cases c1:hk a=1∧hk b=2
 ·have ha:4352<=a∧a<=4370:=by omega
  have hb:4449<=b∧b<=4469:=by omega
  have hw1:IntKind.wrap .i64 (21*(a-4352))=21*(a-4352):=iv (fg om om);have hw2:IntKind.wrap .i64 ((IntKind.wrap .i64 (21*(a-4352))+b-4449)*28)=(21*(a-4352)+b-4449)*28:=by rw[hw1];exact iv (fg om om)
  rw[show hcD a b=.tup [i64 (44032+(21*(a-4352)+(b-4449))*28),boo true] by unfold hcD hc;rw[if_pos c1]];repeat' ((conv=>whnf);first|exact kQ|(refine bk ?_ ?_<;>intro _<;>try(exfalso;omega))|refine stq ?_|refine cp h1 ?_|refine cp h2 ?_|refine Chk.mk Dt ?_|fail)
  all_goals(conv=>whnf)
  all_goals first
   | omega
   | exact⟨.tup (.cons (.int om) (.cons (.same rfl) .nil))⟩
 ·by_cases c2:hk a=4∧hk b=3
  ·rw[show hcD a b=.tup [i64 (a+b-4519),boo true] by unfold hcD hc;rw[if_neg c1,if_pos c2]];have ha:44032<=a∧a<=55203:=by omega
   have hb:4520<=b∧b<=4546:=by omega
   repeat' ((conv=>whnf);first|exact kQ|(refine bk ?_ ?_<;>intro _<;>try(exfalso;omega))|refine stq ?_|refine cp h1 ?_|refine cp h2 ?_|refine Chk.mk Dt ?_|fail)
   all_goals(conv=>whnf)
   all_goals first
    | omega
    | exact⟨.tup (.cons (.int om) (.cons (.same rfl) .nil))⟩
  ·rw[show hcD a b=.tup [i64 0,boo false] by unfold hcD hc;rw[if_neg c1,if_neg c2]];repeat' ((conv=>whnf);first|exact kQ|(refine bk ?_ ?_<;>intro _<;>try(exfalso;omega))|refine stq ?_|refine cp h1 ?_|refine cp h2 ?_|refine Chk.mk Dt ?_|fail)
   all_goals(conv=>whnf)
   all_goals first
    | omega
    | exact⟨.tup (.cons (.int om) (.cons (.same rfl) .nil))⟩
abbrev pM (n:Nm) (m:Mpg):Prop:=m.tag=[]∧m.to.length=2∧aJ n.cl m.frm=0∧aJ n.cl (m.to.getD 0 0)=0∧bM n.xc m.frm=false
theorem AA {l:List Spn}{a b:Int}{x y:Bool}(h:a=b->x=y):[bC l,i64 a]=[bC l,i64 b]->boo x=boo y:=λe=>by
 have:a=b:=by injection e with _ e;injection e with e _;injection e with e;injection e
 rw[h this]
theorem o9 {n:Nm}(hO:OrV n.cl) (hn:n.ok){i:Nat}(hi:i<n.dc.length):Pu Tryz.prog 278 [nmD n,i64 (i:Int)] (boo (decide (pM n n.dc[i]))):=by
 have hu:fG n.cl=n.cl:=if_pos hO
 have hS:∀ c:Int,Pu Tryz.prog 162 [bC n.cl,i64 c] (boo (decide (aJ n.cl c=0))):=λc=>by
  have:=qX (c:=c) hn.cl
  rwa [hu] at this
 have hH:Pu Tryz.prog 287 [jd n.xc,i64 n.dc[i].frm] (boo (bM n.xc n.dc[i].frm)):=rn (by have:=hn.xc;omega);by_cases h1:n.dc[i].tag=[]
 ·by_cases h2:n.dc[i].to.length=2
  ·have hg0:n.dc[i].to.getD 0 0=n.dc[i].to[0]'(by omega):=gDe om;by_cases h3:aJ n.cl n.dc[i].frm=0
   ·have s1:=hS n.dc[i].frm;rw[decide_eq_true h3] at s1;by_cases h4:aJ n.cl (n.dc[i].to[0]'(by omega))=0
    ·have s2:=hS (n.dc[i].to[0]'(by omega));rw[decide_eq_true h4] at s2;by_cases h5:bM n.xc n.dc[i].frm=true
     ·
      rw[h5] at hH;rw[decide_eq_false (λh:pM n n.dc[i]=>by have h6:=h.2.2.2.2;rw[h5] at h6;exact Bool.noConfusion h6)];refine Pu.of_v aA T0 Tryz.func278 rfl rfl (aD (aQ n) rfl) ?_;repeat' ((conv=>whnf);first|refine Idx.at (l:=n.dc[i].to) (f:=i64) 0 rfl om ?_|exact kQ|(refine bk ?_ ?_<;>intro _<;>try(exfalso;omega))|refine stq ?_|refine cp s1 ?_|refine cp s2 ?_|refine cp hH ?_|refine Chk.mk (AA λ_=>rfl) ?_|fail)
      all_goals(conv=>whnf)
      all_goals first
       | exact aE.same rfl rfl
       | (exfalso;omega)
       | contradiction
     ·
      replace h5:bM n.xc n.dc[i].frm=false:=by simpa using h5
      rw[h5] at hH;rw[decide_eq_true (show pM n n.dc[i] from⟨h1,h2,h3,hg0▸h4,h5⟩)];refine Pu.of_v aA T0 Tryz.func278 rfl rfl (aD (aQ n) rfl) ?_;repeat' ((conv=>whnf);first|refine Idx.at (l:=n.dc[i].to) (f:=i64) 0 rfl om ?_|exact kQ|(refine bk ?_ ?_<;>intro _<;>try(exfalso;omega))|refine stq ?_|refine cp s1 ?_|refine cp s2 ?_|refine cp hH ?_|refine Chk.mk (AA λ_=>rfl) ?_|fail)
      all_goals(conv=>whnf)
      all_goals first
       | exact aE.same rfl rfl
       | (exfalso;omega)
       | contradiction
    ·have s2:=hS (n.dc[i].to[0]'(by omega));rw[decide_eq_false h4] at s2;rw[decide_eq_false (λh:pM n n.dc[i]=>h4 (hg0▸h.2.2.2.1))];refine Pu.of_v aA T0 Tryz.func278 rfl rfl (aD (aQ n) rfl) ?_;repeat' ((conv=>whnf);first|refine Idx.at (l:=n.dc[i].to) (f:=i64) 0 rfl om ?_|exact kQ|(refine bk ?_ ?_<;>intro _<;>try(exfalso;omega))|refine stq ?_|refine cp s1 ?_|refine cp s2 ?_|refine Chk.mk (AA λh=>absurd (h▸h3) h4) ?_|refine Chk.mk (AA λh=>absurd (h.symm▸h3) h4) ?_|fail)
     all_goals(conv=>whnf)
     all_goals first
      | exact aE.same rfl rfl
      | (exfalso;omega)
      | contradiction
   ·have s1:=hS n.dc[i].frm;rw[decide_eq_false h3] at s1;rw[decide_eq_false (λh:pM n n.dc[i]=>h3 h.2.2.1)];refine Pu.of_v aA T0 Tryz.func278 rfl rfl (aD (aQ n) rfl) ?_;repeat' ((conv=>whnf);first|exact kQ|(refine bk ?_ ?_<;>intro _<;>try(exfalso;omega))|refine stq ?_|refine cp s1 ?_|fail)
    all_goals(conv=>whnf)
    all_goals first
     | exact aE.same rfl rfl
     | (exfalso;omega)
     | contradiction
  ·rw[decide_eq_false (λh:pM n n.dc[i]=>h2 h.2.1)];refine Pu.of_v aA T0 Tryz.func278 rfl rfl (aD (aQ n) rfl) ?_;repeat' ((conv=>whnf);first|exact kQ|(refine bk ?_ ?_<;>intro _<;>try(exfalso;omega))|refine stq ?_)
   all_goals(conv=>whnf)
   all_goals first
    | exact aE.same rfl rfl
    | (exfalso;omega)
    | contradiction
 ·rw[decide_eq_false (λh:pM n n.dc[i]=>h1 h.1)];refine Pu.of_v aA T0 Tryz.func278 rfl rfl (aD (aQ n) rfl) ?_;repeat' ((conv=>whnf);first|exact kQ|(refine bk ?_ ?_<;>intro _<;>try(exfalso;omega))|refine stq ?_)
  all_goals(conv=>whnf)
  all_goals first
   | exact aE.same rfl rfl
   | (exfalso;omega)
   | contradiction
noncomputable def tw (n:Nm) (a b:Int):D:=match jn n a b with|some w=>.tup [i64 w,boo true]|none=>.tup [i64 0,boo false]
theorem iy {n:Nm}{a b:Int}{m:Mpg}:ci n a b m↔pM n m∧m.to.getD 0 0=a∧m.to.getD 1 0=b:=by
 unfold ci cls;constructor
 ·rintro⟨h1,h2,h3,h4,h5⟩;refine⟨⟨h1,by rw[h2];rfl,h4,by rw[h2];exact h5,h3⟩,by rw[h2];rfl,by rw[h2];rfl⟩
 ·rintro⟨⟨h1,h2,h3,h4,h5⟩,h6,h7⟩
  have h8:m.to=[a,b]:=by
   match hm:m.to,h2 with
   | [x,y],_=>rw[hm] at h6 h7;simp at h6 h7;rw[h6,h7]
  exact⟨h1,h8,h5,h3,h6▸h4⟩
theorem GE {n:Nm}{a b:Int}(hc0:hc a b=none){i:Nat}(hi:i<n.dc.length) (h:ci n a b n.dc[i]) (h0:∀ j (h:j<n.dc.length),j<i->¬ci n a b n.dc[j]):jn n a b=some n.dc[i].frm:=by
 unfold jn;rw[hc0]
 have:n.dc.find? (λm=>decide (ci n a b m))=some n.dc[i]:=by
  rw[List.find?_eq_some_iff_getElem];exact⟨by simpa using h,i,hi,rfl,λj hj=>by have:=h0 j om hj;simpa using this⟩
 simp only[this,kF]
theorem GB {n:Nm}{a b:Int}(hc0:hc a b=none) (h0:∀ j (h:j<n.dc.length),¬ci n a b n.dc[j]):jn n a b=none:=by
 unfold jn;rw[hc0]
 have:n.dc.find? (λm=>decide (ci n a b m))=none:=by
  rw[List.find?_eq_none];intro m hm;obtain⟨j,hj,rfl⟩:=List.getElem_of_mem hm;simpa using h0 j hj
 simp only[this,Option.map_none]
theorem pair_c {n:Nm}{a b:Int}(hO:OrV n.cl) (hn:n.ok):Pu Tryz.prog 279 [nmD n,i64 a,i64 b] (tw n a b):=by
 have hlen:=hn.dc;have h1:=Fh (a:=a) (b:=b);cases hh:hc a b with
 | some w=>
  rw[show hcD a b=.tup [i64 w,boo true] from by unfold hcD;rw[hh]] at h1;rw[show tw n a b=.tup [i64 w,boo true] from by unfold tw jn;rw[hh]];refine Pu.of_v aA T0 Tryz.func279 rfl rfl (aD (aQ n) (aD rfl (aD rfl rfl))) ?_;repeat' ((conv=>whnf);first|exact kQ|(refine bk ?_ ?_<;>intro _<;>try(exfalso;omega))|refine stq ?_|refine cp h1 ?_|fail)
  all_goals(conv=>whnf)
  exact⟨.tup (.cons (.same rfl) (.cons (.same rfl) .nil))⟩
 | none=>
  rw[show hcD a b=.tup [i64 0,boo false] from by unfold hcD;rw[hh]] at h1;refine Pu.of_v aA T0 Tryz.func279 rfl rfl (aD (aQ n) (aD rfl (aD rfl rfl))) ?_;repeat' ((conv=>whnf);first|exact kQ|(refine bk ?_ ?_<;>intro _<;>try(exfalso;omega))|refine stq ?_|refine cp h1 ?_|fail)
  refine aH.by aA T0 (λk:Nat=>⟨tmp 59 [(1,i64 a),(2,i64 b),(3,.ptr 0 0),(10,i64 (k:Int))],⟨1,nmX n⟩⟩) (λk=>k<=n.dc.length∧∀ j (h:j<n.dc.length),j<k->¬ci n a b n.dc[j]) (λk=>n.dc.length-k) 0 ⟨by omega,λ_ _ h=>by omega⟩ ?_ ?_
  ·exact lq [(0,_)] []
  intro k ⟨h3,h4⟩;by_cases hk1:k<n.dc.length
  ·have h2:=o9 hO hn hk1;by_cases hq:pM n n.dc[k]
   ·have hl2:=hq.2.1;have e0:n.dc[k].to.getD 0 0=n.dc[k].to[0]'(by omega):=gDe om;have e1:n.dc[k].to.getD 1 0=n.dc[k].to[1]'(by omega):=gDe om;rw[decide_eq_true hq] at h2;repeat' ((conv=>whnf);first|refine Idx.at (l:=n.dc[k].to) (f:=i64) 1 rfl om ?_|refine Idx.at (l:=n.dc[k].to) (f:=i64) 0 rfl om ?_|exact kQ|(refine bk ?_ ?_<;>intro _<;>try(exfalso;omega))|refine stq ?_|refine cp h2 ?_|fail)
    all_goals(conv=>whnf)
    all_goals first
     | (rw[show tw n a b=.tup [i64 n.dc[k].frm,boo true] from by unfold tw;rw[GE hh hk1 (iy.2 ⟨by assumption,by rw[e0];assumption,by rw[e1];assumption⟩) h4]]
        exact⟨.tup (.cons (.same rfl) (.cons (.same rfl) .nil))⟩)
     | (refine⟨k+1,⟨by omega,ad hk1 h4 (λhc=>by have h:=(iy.1 hc).2;rw[e0,e1] at h;first|exact absurd h.1 asm|exact absurd h.2 asm)⟩,by omega,?_⟩
        exact lq [(0,_)] [])
   ·rw[decide_eq_false hq] at h2;repeat' ((conv=>whnf);first|exact kQ|(refine bk ?_ ?_<;>intro _<;>try(exfalso;omega))|refine stq ?_|refine cp h2 ?_|fail)
    all_goals(conv=>whnf)
    all_goals first
     | (refine⟨k+1,⟨by omega,ad hk1 h4 (λhc=>hq (iy.1 hc).1)⟩,by omega,?_⟩
        exact lq [(0,_)] [])
  ·rw[show tw n a b=.tup [i64 0,boo false] from by unfold tw;rw[GB hh λj hj=>h4 j hj om]];repeat' ((conv=>whnf);first|exact kQ|(refine bk ?_ ?_<;>intro _<;>try(exfalso;omega))|refine stq ?_)
   all_goals(conv=>whnf)
   exact⟨.tup (.cons (.same rfl) (.cons (.same rfl) .nil))⟩
end
section
set_option linter.unusedVariables false
theorem xUK.rdX {p:Prop}(h:p:=by first|exact Rd.nil|exact Rd.same (mB _)|exact Rd.frzL dM eC rfl rfl (fin0 om rfl) rfl (fin2 rfl)|exact Rd.sl' rfl sim sim|exact Rd.frzL dM eC rfl rfl (fin0 om rfl) rfl (fin1 rfl (by first|(rcases ht4 with h|h<;>first|exact h|omega;done)|fail))|fail):p:=h
theorem xUK.rbX {p:Prop}(h:p:=by first|exact rbN|exact Rb.cells (Rds.same (aG eC _)) rfl|exact Rb.cells (Rds.eqs (ae (c:=co) (sz:=3) dM (L.take (0)) x) (aG eC _)) rfl|exact Rb.cells (Rds.eqs rfl (aG eC _)) rfl|exact Rb.cells (Rds.eqs (ae (c:=co) (sz:=3) dM (L.take (k+1)) x) (aG eC _)) rfl|fail):p:=h
open xUK
abbrev Tri:=Int×Int×Int
abbrev co (t:Tri):List D:=[i64 t.1,i64 t.2.1,i64 t.2.2]
theorem dM:∀ t:Tri,(co t).length=3:=λ_=>rfl
theorem eC:∀ t:Tri,aK (co t)=true:=λ_=>rfl
abbrev pG (l:List Tri):D:=lstS co l
theorem mB (l:List Tri):aL (pG l)=true:=aG eC l
abbrev bef3 (x y:Tri):Prop:=x.1<y.1∨x.1=y.1∧x.2.1<y.2.1
theorem tK {x y:Tri}:Pu Tryz.prog 280 [.agg (co x),.agg (co y)] (boo (decide (bef3 x y))):=by
 refine pv Tryz.func280 ?_;repeat' ((conv=>whnf);first|exact kQ|(refine bk ?_ ?_<;>intro _<;>try(exfalso;omega))|refine stq ?_)
 all_goals(conv=>whnf)
 all_goals first
  | exact aE.yes (.inl om)
  | exact aE.yes (.inr ⟨by omega,by omega⟩)
  | exact aE.no (by rintro(h|⟨h,h'⟩)<;>omega)
def tri (m:Mpg):Tri:=(m.to.getD 0 0,m.to.getD 1 0,m.frm)
noncomputable def kpM (n:Nm) (m:Mpg):Bool:=decide (pM n m∧jn n (m.to.getD 0 0) (m.to.getD 1 0)=some m.frm)
def uB (x:Tri) (L:List Tri):Nat->Nat
 | 0=>0
 | k+1=>if bef3 x (L.getD k (0,0,0)) then uB x L k else k+1
def mt (x:Tri) (L:List Tri) (k:Nat):List Tri:=L.take k++(x::L.drop k)
def rB (x:Tri) (L:List Tri):List Tri:=mt x L (uB x L L.length)
noncomputable def jc (n:Nm) (L:List Tri) (m:Mpg):List Tri:=if kpM n m then rB (tri m) L else L
noncomputable def ef (n:Nm) (l:List Mpg):List Tri:=l.foldl (jc n) []
theorem sP {x:Tri}{L:List Tri}{k:Nat}:(mt x L k).Perm (x::L):=by
 unfold mt;have h:(x::(L.take k++L.drop k)).Perm (x::L):=by rw[List.take_append_drop]
 exact List.perm_middle.trans h
theorem wA {x:Tri}{L:List Tri}{k:Nat}:(mt x L k).length=L.length+1:=by rw[sP.length_eq];rfl
theorem wG {n:Nm}{l:List Mpg}{i:Nat}(h:i<l.length):ef n (l.take (i+1))=jc n (ef n (l.take i)) l[i]:=by
 unfold ef;rw[aS h,List.foldl_append];rfl
theorem A3 {n:Nm}{L:List Tri}{m:Mpg}{x:Tri}:x∈jc n L m↔(x∈L∨(kpM n m=true∧x=tri m)):=by
 unfold jc;split
 ·rename_i h;unfold rB;rw[sP.mem_iff,kH];constructor
  ·rintro(h1|h1);exact .inr ⟨h,h1⟩;exact .inl h1
  ·rintro(h1|⟨_,h1⟩);exact .inr h1;exact .inl h1
 ·rename_i h;exact⟨.inl,λh1=>h1.elim id λh2=>absurd h2.1 h⟩
theorem qe {n:Nm}{x:Tri}:∀ {l:List Mpg},x∈ef n l↔∃ m∈l,kpM n m=true∧x=tri m:=by
 have key:∀ (l:List Mpg) (L:List Tri),x∈l.foldl (jc n) L↔(x∈L∨∃ m∈l,kpM n m=true∧x=tri m):=λl=>by
  induction l with
  | nil=>intro L;simp
  | cons m l ih=>
   intro L;rw[List.foldl_cons,ih,A3];constructor
   ·rintro((h|h)|⟨m',h1,h2⟩)
    ·exact .inl h
    ·exact .inr ⟨m,by simp,h⟩
    ·exact .inr ⟨m',List.mem_cons_of_mem _ h1,h2⟩
   ·rintro(h|⟨m',h1,h2⟩)
    ·exact .inl (.inl h)
    ·rcases List.mem_cons.1 h1 with rfl|h1
     ·exact .inl (.inr h2)
     ·exact .inr ⟨m',h1,h2⟩
 intro l;unfold ef;rw[key];simp
theorem jL {n:Nm}:∀ {l:List Mpg},(ef n l).length<=l.length:=by
 have key:∀ (l:List Mpg) (L:List Tri),(l.foldl (jc n) L).length<=L.length+l.length:=λl=>by
  induction l with
  | nil=>intro L;simp
  | cons m l ih=>
   intro L;rw[List.foldl_cons];refine Nat.le_trans (ih _) ?_
   have:(jc n L m).length<=L.length+1:=by
    unfold jc;split
    ·exact Nat.le_of_eq wA
    ·omega
   rw[kO];omega
 intro l;simpa [ef] using key l []
theorem Gh {n:Nm}{m:Mpg}(hm:m∈n.dc) (h:pM n m):∃ w,jn n (m.to.getD 0 0) (m.to.getD 1 0)=some w:=by
 unfold jn;cases hh:hc (m.to.getD 0 0) (m.to.getD 1 0) with
 | some w=>exact⟨w,rfl⟩
 | none=>
  simp only;cases hf:n.dc.find? (λm'=>decide (ci n (m.to.getD 0 0) (m.to.getD 1 0) m')) with
  | some m'=>exact⟨m'.frm,rfl⟩
  | none=>
   have:=List.find?_eq_none.1 hf m hm
   simp only[decide_eq_true_eq] at this;exact absurd (iy.2 ⟨h,rfl,rfl⟩) this
theorem Cq {L:List Tri}:∀ {k:Nat},(L.flatMap co).drop (k*3)=(L.drop k).flatMap co:=by
 induction L with
 | nil=>intro k;simp
 | cons x L ih=>
  intro k;cases k with
  | zero=>simp
  | succ k=>
   rw[List.flatMap_cons,show(k+1)*3=(co x).length+k*3 from by rw[dM];omega,List.drop_append,List.drop_of_length_le om,Nat.add_sub_cancel_left,ih];rfl
theorem qE {L:List Tri}:∀ {k:Nat},(L.flatMap co).take (k*3)=(L.take k).flatMap co:=by
 induction L with
 | nil=>intro k;simp
 | cons x L ih=>
  intro k;cases k with
  | zero=>simp
  | succ k=>
   rw[List.flatMap_cons,show(k+1)*3=(co x).length+k*3 from by rw[dM];omega,List.take_append,kE om,Nat.add_sub_cancel_left,ih];rfl
theorem jC (L:List Tri):(L.flatMap co).length=L.length*3:=aW dM L
theorem dC.tri {h:aB}{n:Nat}{cs:List D}{K:Nat->List D->Prop}(M:List Tri) (en:n=M.length) (ec:cs=M.flatMap co) (go:K M.length (M.flatMap co)):dC h 3 (.imm n cs) K:=by
 subst en;subst ec;exact⟨_,_,by simp only[cE];rw[if_pos (jC M)],go⟩
theorem qg:∀ M:List Tri,gW (M.flatMap co)=true
 | []=>rfl
 | x::M=>by rw[List.flatMap_cons];exact qg M
theorem sR {L:List Tri}{k:Nat}:((L.flatMap co).drop ((0:Int).toNat*3)).take (((k:Int)-0).toNat*3)=(L.take k).flatMap co:=by
 rw[show(0:Int).toNat*3=0 from rfl,List.drop_zero,show((k:Int)-0).toNat=k from by omega,qE]
theorem sS {L:List Tri}{k:Nat}(h:k<=L.length):((L.flatMap co).drop ((k:Int).toNat*3)).take (((L.length:Int)-(k:Int)).toNat*3)=(L.drop k).flatMap co:=by
 rw[Int.toNat_natCast,Cq,show((L.length:Int)-(k:Int)).toNat=(L.drop k).length from by rw[List.length_drop];omega,qE,kE (kP _)]
theorem putC {x:Tri}{L:List Tri}{k:Nat}:(mt x L k).flatMap co=(L.take k).flatMap co++(co x++(L.drop k).flatMap co):=by
 unfold mt;rw[List.flatMap_append,List.flatMap_cons]
theorem fin1 {x:Tri}{L:List Tri}{k m:Nat}(hm:m=(L.take k++[x]).length) (h:L.drop k=[]):splice ((L.take k++[x]).flatMap co) (0+m*3) ((L.drop k).flatMap co)=(mt x L k).flatMap co:=by
 subst hm;unfold splice mt;rw[h];simp
theorem fin2 {x:Tri}{L:List Tri}{k m:Nat}(hm:m=(L.take k++[x]).length):(((L.take k++[x]).flatMap co).drop 0).take (m*3)++(L.drop k).flatMap co=(mt x L k).flatMap co:=by
 subst hm;rw[List.drop_zero,qE,kE (kP _),putC,List.flatMap_append];simp
theorem fin0 {x:Tri}{L:List Tri}{k n:Nat}(hk:k<=L.length) (hn:n=(L.take k++[x]).length+(L.drop k).length):n=(mt x L k).length:=by
 rw[hn,wA,kG,List.length_take,List.length_drop];simp;omega
theorem Fk {n:Nm}(hn:n.ok):Pu Tryz.prog 158 [nmD n] (pG (ef (okN n) (okN n).dc)):=by
 have h1:=yc hn;have hN:=qn hn;generalize okN n=n' at *;have hO:=hN.g.cls;have hok:=hN.ok;have hlen:=hok.dc;refine Pu.of_v aA T0 Tryz.func158 rfl rfl (aD (aQ n) rfl) ?_;repeat' ((conv=>whnf);first|exact kQ|(refine bk ?_ ?_<;>intro _<;>try(exfalso;omega))|refine stq ?_|refine cp h1 ?_|fail)
 refine aH.by2 aA T0 (λ(i:Nat) (L:List Tri)=>⟨tmp 90 [(1,.ptr 0 0),(3,pG L),(4,i64 (i:Int))],⟨1,nmX n'⟩⟩) (λi L=>i<=n'.dc.length∧L=ef n' (n'.dc.take i)) (λi _=>n'.dc.length-i) 0 [] ⟨by omega,rfl⟩ ?_ ?_
 ·exact lq [(0,_)] []
 intro i L ⟨h3,h4⟩;have hL:L.length<=i:=by rw[h4];refine Nat.le_trans jL ?_;simp;omega
 by_cases hi:i<n'.dc.length
 ·have hs:=wG (n:=n') hi;rw[<-h4] at hs;have hc:=o9 hO hok hi;by_cases hq:pM n' n'.dc[i]
  ·have hl2:=hq.2.1;have e0:n'.dc[i].to.getD 0 0=n'.dc[i].to[0]'(by omega):=gDe om;have e1:n'.dc[i].to.getD 1 0=n'.dc[i].to[1]'(by omega):=gDe om;obtain⟨w,hw⟩:=Gh (kM hi) hq;have hp:=pair_c (a:=n'.dc[i].to[0]'(by omega)) (b:=n'.dc[i].to[1]'(by omega)) hO hok;rw[<-e0,<-e1,show tw n' (n'.dc[i].to.getD 0 0) (n'.dc[i].to.getD 1 0)=.tup [i64 w,boo true] from by unfold tw;rw[hw]] at hp;rw[e0,e1] at hp;rw[decide_eq_true hq] at hc;by_cases hwf:w=n'.dc[i].frm
   ·have hk:kpM n' n'.dc[i]=true:=decide_eq_true ⟨hq,by rw[hw,hwf]⟩;have hx:tri n'.dc[i]=(n'.dc[i].to[0]'(by omega),n'.dc[i].to[1]'(by omega),n'.dc[i].frm):=by unfold tri;rw[e0,e1]
    have hs2:ef n' (n'.dc.take (i+1))=rB (n'.dc[i].to[0]'(by omega),n'.dc[i].to[1]'(by omega),n'.dc[i].frm) L:=by rw[hs];unfold jc;rw[if_pos hk,hx]
    repeat' ((conv=>whnf);first|refine Idx.at (l:=n'.dc[i].to) (f:=i64) 1 rfl om ?_|refine Idx.at (l:=n'.dc[i].to) (f:=i64) 0 rfl om ?_|exact kQ|(refine bk ?_ ?_<;>intro _<;>try(exfalso;omega))|refine stq ?_|refine cp hc ?_|refine cp hp ?_|refine aX.by (id:=7) aA T0 [0,1,0,7,15,31,63,127,0,256,0,1792,3840,7936,16128,32512,0,65536,0,458752,983040,2031616,4194303,0,16777215] (by kernel_rfl) ?_|fail)
    generalize hxx:((n'.dc[i].to[0]'(by omega),n'.dc[i].to[1]'(by omega),n'.dc[i].frm):Tri)=x at hs2;refine aH.by aA T0 (λk:Nat=>⟨tmp 90 [(1,.ptr 0 0),(3,pG L),(4,i64 (i:Int)),(5,.ptr 1 0),(8,i64 (k:Int))],⟨2,(1,.cells (co x) true)::nmX n'⟩⟩) (λk=>k<=L.length∧uB x L L.length=uB x L k) (λk=>k) L.length ⟨kP _,rfl⟩ ?_ ?_
    ·subst hxx;exact lq [(0,0),(1,33)] []
    intro k ⟨g1,g2⟩;cases k with
    | zero=>
     have hi2:rB x L=mt x L 0:=by unfold rB;rw[g2];rfl
     have ht1:(L.take (0)).length=(0):=by rw[List.length_take];omega
     have ht2:(L.drop (0)).length=L.length-(0):=by simp
     have ht3:(L.take (0)++[x]).length=(0)+1:=by rw[kG,ht1];rfl
     have ht4:L.drop (0)=[]∨0<(L.drop (0)).length:=by cases L.drop (0)<;>simp
     repeat' ((conv=>whnf);first|refine dC.tri (L.drop (0)) om (by exact sS om) ?_|refine dC.tri (L.take (0)) om (by exact sR) ?_|refine Chk.growX 24 3 rfl rfl om om (by rw[jC];omega) ?_|refine Chk.room 24 rfl om om ?_|refine Chk.mk (show 0+((L.take (0)++[x]).length+(L.drop (0)).length)*3<=((L.take (0)++[x]).flatMap co).length from by rw[jC];omega) ?_|refine Chk.mk (qg _) ?_|refine Chk.mk ⟨by omega,by omega,by omega,by exact jC L⟩ ?_|refine cm.weak (x:=Code.seq (Code.region 16 _ false) _) aA T0 (s0:=⟨tmp 90 [(1,.ptr 0 0),(3,pG L),(4,i64 (i:Int)),(8,i64 ((0:Nat):Int)),(9,.sl 1 0 (L.take (0)++[x]).length (L.take (0)++[x]).length 3 false)],⟨2,(1,.cells ((L.take (0)++[x]).flatMap co) false)::nmX n'⟩⟩) ?_ ?_|refine cm.weak (x:=Code.seq (Code.region 15 _ false) _) aA T0 (s0:=⟨tmp 90 [(1,.ptr 0 0),(3,pG L),(4,i64 (i:Int)),(5,.ptr 1 0),(8,i64 ((0:Nat):Int)),(9,aO)],⟨2,(1,.cells (co x) true)::nmX n'⟩⟩) ?_ ?_|exact kQ|(refine bk ?_ ?_<;>intro _<;>try(exfalso;omega))|refine stq ?_|fail)
     ·exact lq [(0,0),(1,1)] []
     ·exact lq [(0,0),(1,5)] []
     all_goals(conv=>whnf)
     all_goals first
      | (exfalso;omega)
      | (refine⟨i+1,rB x L,⟨by omega,hs2.symm⟩,by omega,?_⟩
         rw[hi2]
         exact lq [(0,_)] [1])
      | (refine⟨i+1,rB x L,⟨by omega,hs2.symm⟩,by omega,?_⟩
         rw[hi2]
         exact lq [(0,_)] [6])
    | succ k=>
     have hg:L.getD k (0,0,0)=L[k]:=by simp[List.getD_eq_getElem?_getD,show k<L.length by omega]
     by_cases hb:bef3 x L[k]
     ·have hp2:uB x L (k+1)=uB x L k:=by rw[uB,hg,if_pos hb]
      have hB:=tK (x:=x) (y:=L[k]);rw[decide_eq_true hb] at hB;repeat' ((conv=>whnf);first|refine Idx.atS dM k om om ?_|exact kQ|(refine bk ?_ ?_<;>intro _<;>try(exfalso;omega))|refine stq ?_|refine cp hB ?_|refine aX.by (id:=11) aA T0 [0,1,3,7,7,7,39,119,247,511,1023] (by kernel_rfl) ?_|fail)
      all_goals(conv=>whnf)
      all_goals first
       | (exfalso;omega)
       | (refine⟨k,⟨by omega,by rw[g2,hp2]⟩,by omega,?_⟩
          exact lq [(0,0),(1,1)] [])
     ·have hp2:uB x L (k+1)=k+1:=by rw[uB,hg,if_neg hb]
      have hi2:rB x L=mt x L (k+1):=by unfold rB;rw[g2,hp2]
      have hB:=tK (x:=x) (y:=L[k]);rw[decide_eq_false hb] at hB;repeat' ((conv=>whnf);first|refine Idx.atS dM k om om ?_|exact kQ|(refine bk ?_ ?_<;>intro _<;>try(exfalso;omega))|refine stq ?_|refine cp hB ?_|refine aX.by (id:=11) aA T0 [0,1,3,7,7,7,39,119,247,511,1023] (by kernel_rfl) ?_|fail)
      all_goals(conv=>whnf)
      have ht1:(L.take (k+1)).length=(k+1):=by rw[List.length_take];omega
      have ht2:(L.drop (k+1)).length=L.length-(k+1):=by simp
      have ht3:(L.take (k+1)++[x]).length=(k+1)+1:=by rw[kG,ht1];rfl
      have ht4:L.drop (k+1)=[]∨0<(L.drop (k+1)).length:=by cases L.drop (k+1)<;>simp
      repeat' ((conv=>whnf);first|refine dC.tri (L.drop (k+1)) om (by exact sS om) ?_|refine dC.tri (L.take (k+1)) om (by exact sR) ?_|refine Chk.growX 24 3 rfl rfl om om (by rw[jC];omega) ?_|refine Chk.room 24 rfl om om ?_|refine Chk.mk (show 0+((L.take (k+1)++[x]).length+(L.drop (k+1)).length)*3<=((L.take (k+1)++[x]).flatMap co).length from by rw[jC];omega) ?_|refine Chk.mk (qg _) ?_|refine Chk.mk ⟨by omega,by omega,by omega,by exact jC L⟩ ?_|refine cm.weak (x:=Code.seq (Code.region 16 _ false) _) aA T0 (s0:=⟨tmp 90 [(1,.ptr 0 0),(3,pG L),(4,i64 (i:Int)),(8,i64 ((k+1:Nat):Int)),(9,.sl 1 0 (L.take (k+1)++[x]).length (L.take (k+1)++[x]).length 3 false)],⟨2,(1,.cells ((L.take (k+1)++[x]).flatMap co) false)::nmX n'⟩⟩) ?_ ?_|refine cm.weak (x:=Code.seq (Code.region 15 _ false) _) aA T0 (s0:=⟨tmp 90 [(1,.ptr 0 0),(3,pG L),(4,i64 (i:Int)),(5,.ptr 1 0),(8,i64 ((k+1:Nat):Int)),(9,.sl 2 0 (L.take (k+1)).length (L.take (k+1)).length 3 false)],⟨3,(2,.cells ((L.take (k+1)).flatMap co) false)::(1,.cells (co x) true)::nmX n'⟩⟩) ?_ ?_|exact kQ|(refine bk ?_ ?_<;>intro _<;>try(exfalso;omega))|refine stq ?_|fail)
      ·exact lq [(0,0),(1,1),(2,18)] []
      ·exact lq [(0,0),(1,6)] []
      all_goals(conv=>whnf)
      all_goals first
       | (exfalso;omega)
       | (refine⟨i+1,rB x L,⟨by omega,hs2.symm⟩,by omega,?_⟩
          rw[hi2]
          exact lq [(0,_)] [1])
       | (refine⟨i+1,rB x L,⟨by omega,hs2.symm⟩,by omega,?_⟩
          rw[hi2]
          exact lq [(0,_)] [6])
   ·have hk:¬kpM n' n'.dc[i]=true:=λh=>by have h2:=(of_decide_eq_true h).2;rw[hw] at h2;injection h2 with h2;exact hwf h2
    have hs2:ef n' (n'.dc.take (i+1))=L:=by rw[hs];unfold jc;rw[if_neg hk]
    repeat' ((conv=>whnf);first|refine Idx.at (l:=n'.dc[i].to) (f:=i64) 1 rfl om ?_|refine Idx.at (l:=n'.dc[i].to) (f:=i64) 0 rfl om ?_|exact kQ|(refine bk ?_ ?_<;>intro _<;>try(exfalso;omega))|refine stq ?_|refine cp hc ?_|refine cp hp ?_|refine aX.by (id:=7) aA T0 [0,1,0,7,15,31,63,127,0,256,0,1792,3840,7936,16128,32512,0,65536,0,458752,983040,2031616,4194303,0,16777215] (by kernel_rfl) ?_|fail)
    all_goals(conv=>whnf)
    all_goals first
     | contradiction
     | (refine⟨i+1,L,⟨by omega,hs2.symm⟩,by omega,?_⟩
        exact lq [(0,_)] [])
  ·have hk:¬kpM n' n'.dc[i]=true:=λh=>hq (of_decide_eq_true h).1
   have hs2:ef n' (n'.dc.take (i+1))=L:=by rw[hs];unfold jc;rw[if_neg hk]
   rw[decide_eq_false hq] at hc;repeat' ((conv=>whnf);first|exact kQ|(refine bk ?_ ?_<;>intro _<;>try(exfalso;omega))|refine stq ?_|refine cp hc ?_|fail)
   all_goals(conv=>whnf)
   all_goals first
    | (refine⟨i+1,L,⟨by omega,hs2.symm⟩,by omega,?_⟩
       exact lq [(0,_)] [])
 ·rw[kE om] at h4;subst h4;repeat' ((conv=>whnf);first|exact kQ|(refine bk ?_ ?_<;>intro _<;>try(exfalso;omega))|refine stq ?_)
  all_goals(conv=>whnf)
  exact aE.same (mB _) rfl
end
end Go.Proofs.YtihggclfifimoaaGreatDoor
