/-
  Contracts over data: colltable.Elements.
-/
import Derived.Test.YticpeeooobajgaaGreatDoorID
import Derived.Test.YticpeeooobajgaaGreatDoorIE
set_option linter.unusedSectionVars false
namespace Go.Proofs.YticpeeooobajgaaGreatDoor
open Go Go.Am Classical
set_option maxRecDepth 100000
set_option linter.unusedVariables false
theorem xIF.rdX {p:Prop}(h:p:=by first|exact Rd.same (eP n)|exact Rd.same (aG _)|exact Rd.same (bO _)|exact Rd.same (bN _)|exact Rd.same (aO _)|exact Rd.slO rfl rfl rfl rfl|exact Rd.tup (.cons (.same rfl) (.cons (.same (cS _)) (.cons (.same rfl) .nil)))|exact Rd.slO rfl sim sim sim|exact Rd.sl' rfl sim sim|fail):p:=h
theorem xIF.rbX {p:Prop}(h:p:=by first|exact Rb.map (Res.same (vU _))|exact Rb.cells (Rds.eqs hcm.symm (aN (λ_=>rfl) _)) rfl|exact Rb.cells (Rds.same (aC (by intro _;rfl) _)) rfl|exact Rb.cells (Rds.eqs (appEm (x::xs) (y::ys)) (aC (by intro _;rfl) _)) rfl|exact Rb.cells (Rds.eqs (appE0 (x::xs)) (aC (by intro _;rfl) _)) rfl|exact Rb.cells (Rds.same (aN (λ_=>rfl) _)) rfl|fail):p:=h
open xIF
theorem wp {fd:List Int->Option (List Elm)}{cl:Int->Int}{tp:Int}:∀ (f i z:Nat) (l:Int) (s:List Int),z<=i->i<=s.length->z<=(m2 fd cl tp f i z l s).1∧(m2 fd cl tp f i z l s).1<=s.length∧(m2 fd cl tp f i z l s).2.length=s.length
 | 0,i,z,l,s,h1,h2=>⟨kP _,by simp only[m2];omega,rfl⟩
 | f+1,i,z,l,s,h1,h2=>by
  simp only[m2];split
  ·rename_i h;split
   ·exact⟨kP _,by omega,rfl⟩
   ·split
    ·exact wp f (i+1) z l s om om
    ·split
     ·exact wp f (i+1) z _ s om om
     ·have hm:=AW h1 h.1;have:=wp (fd:=fd) (cl:=cl) (tp:=tp) f (i+1) (z+1) l (mv s z i) om om
      rw[hm] at this;exact⟨by omega,this.2⟩
  ·exact⟨kP _,by omega,rfl⟩
theorem mtF_ok {c:Col}{lg:Nat}{M:List (List Int×List Elm)}{cl:List Spn}{tp:Int}{s:List Int}(hs:0<s.length):1<=(mtF c lg M cl tp s).1.1∧(mtF c lg M cl tp s).1.1<=s.length∧(mtF c lg M cl tp s).2.length=s.length:=by
 unfold mtF;have hz:=uz (bP lg M) s (min lg s.length);generalize sz1 (bP lg M) s (min lg s.length)=z at *;split
 ·exact⟨kP _,hs,rfl⟩
 ·have:=wp (fd:=bP lg M) (cl:=aK cl) (tp:=tp) (s.length-z) z z 0 s (kP _) om
  exact⟨Nat.le_trans om this.1,this.2⟩
theorem wu {M:List (List Int×List Elm)}{s:List Int}{v:List Elm}{lg:Nat}(h:bP lg M s=some v):(s,v)∈M:=by
 unfold bP at h;split at h
 ·cases h
 ·cases hl:lkE s M 0 with
  | none=>rw[hl] at h;cases h
  | some q=>
   rw[hl] at h;injection h with h
   subst h;exact Ai (j:=q.1) hl
theorem CS {p:Elm->Prop}{c:Col}{lg:Nat}{M:List (List Int×List Elm)}{cl:List Spn}{tp:Int}{s:List Int}(hM:∀ q∈M,∀ e∈q.2,p e) (hi:∀ x,∀ e∈qI c x,p e):∀ e∈(mtF c lg M cl tp s).1.2.1,p e:=by
 unfold mtF;split
 ·exact hi _
 ·intro e he;cases hf:bP lg M ((m2 (bP lg M) (aK cl) tp (s.length-sz1 (bP lg M) s (min lg s.length)) (sz1 (bP lg M) s (min lg s.length)) (sz1 (bP lg M) s (min lg s.length)) 0 s).2.take (m2 (bP lg M) (aK cl) tp (s.length-sz1 (bP lg M) s (min lg s.length)) (sz1 (bP lg M) s (min lg s.length)) (sz1 (bP lg M) s (min lg s.length)) 0 s).1) with
  | none=>simp only[hf] at he;simp at he
  | some v=>simp only[hf] at he;exact hM _ (wu hf) e he
theorem wi {c:Col}{lg:Nat}{M:List (List Int×List Elm)}{cl:List Spn}{tp:Int}{s:List Int}(hM:∀ q∈M,q.2.length<=16):(mtF c lg M cl tp s).1.2.1.length<=16:=by
 unfold mtF;split
 ·show(qI c _).length<=16;unfold qI;split<;>simp
 ·show List.length (Option.getD (α:=List Elm) _ _)<=16;cases hf:bP lg M ((m2 (bP lg M) (aK cl) tp (s.length-sz1 (bP lg M) s (min lg s.length)) (sz1 (bP lg M) s (min lg s.length)) (sz1 (bP lg M) s (min lg s.length)) 0 s).2.take (m2 (bP lg M) (aK cl) tp (s.length-sz1 (bP lg M) s (min lg s.length)) (sz1 (bP lg M) s (min lg s.length)) (sz1 (bP lg M) s (min lg s.length)) 0 s).1) with
  | none=>simp
  | some v=>exact hM _ (wu hf)
def elF (g:List Int->(Nat×List Elm×Bool)×List Int):Nat->List Int->List Elm
 | 0,_=>[]
 | f+1,s=>if s=[] then [] else(g s).1.2.1++elF g f ((g s).2.drop (g s).1.1)
theorem xJ {p:Elm->Prop}{g:List Int->(Nat×List Elm×Bool)×List Int}(hg:∀ s,∀ e∈(g s).1.2.1,p e):∀ (f:Nat) (s:List Int),∀ e∈elF g f s,p e
 | 0,s,e,he=>by simp[elF] at he
 | f+1,s,e,he=>by
  simp only[elF] at he;split at he
  ·simp at he
  ·rcases List.mem_append.1 he with he|he
   ·exact hg s e he
   ·exact xJ hg f _ e he
theorem gn:∀ l:List Elm,fF (l.flatMap hZ)=true
 | []=>rfl
 | x::l=>by show(one _&&(one _&&(one _&&(one _&&fF (l.flatMap hZ)))))=true;rw[gn l];rfl
theorem gO (l:List Elm):(l.flatMap hZ).length=l.length*4:=aj (c:=hZ) (sz:=4) (λ_=>rfl) l
theorem ad.elms {h:aB}{l:List Elm}{K:Nat->List D->Prop}(go:K l.length (l.flatMap hZ)):ad h 4 (elms l) K:=⟨_,_,by simp only[bR,lstS];rw[if_pos (gO l)],go⟩
theorem appEm (a b:List Elm):((a.flatMap hZ).drop 0).take (a.length*4)++b.flatMap hZ=(a++b).flatMap hZ:=by
 rw[List.drop_zero,kE (by rw[gO];omega),List.flatMap_append]
theorem appE0 (a:List Elm):splice (a.flatMap hZ) (0+a.length*4) []=a.flatMap hZ:=by unfold splice;simp
def seqD (o:Nat):List Int->D
 | []=>.imm 0 []
 | x::l=>.sl 2 o (x::l).length (x::l).length 1 false
noncomputable def cF (c:Col) (n':Nm) (s:List Int):List Elm:=elF (mtF (dZ c) (lgE (dZ c).es) (mpE (dZ c).es) n'.cl (uu n'.cl)) s.length s
theorem rr {c:Col}:(∀ p∈mpE (dZ c).es,p.1.length<=8)∧(∀ p∈mpE (dZ c).es,p.2.length<=16)∧∀ p∈mpE (dZ c).es,∀ e∈p.2,jd e=0:=by
 have h:∀ p∈mpE (dZ c).es,∃ e∈(dZ c).es,p=(e.cs,e.es):=λp hp=>by
  have:=tX (k:=(dZ c).es.length) (l:=(dZ c).es) (p:=p)
  rw[List.take_length] at this;exact this hp
 refine⟨λp hp=>?_,λp hp=>?_,λp hp x hx=>?_⟩
 ·obtain⟨e,h1,rfl⟩:=h p hp;exact(jb (jf e h1)).2.1
 ·obtain⟨e,h1,rfl⟩:=h p hp;exact(jb (jf e h1)).2.2
 ·obtain⟨e,h1,rfl⟩:=h p hp;have h2:=jf e h1;unfold i0 at h2;split at h2
  ·omega
  ·split at h2
   ·split at h2
    ·rename_i h3;exact r4 h3 x hx
    ·contradiction
   ·contradiction
set_option maxHeartbeats 8000000 in
theorem pQ {c:Col}{n n':Nm}{t:List Int}(hc:c.ok) (hN:i5 n n') (ht:t.length<=1500):Pu Tryz.prog 70 [nmD n,qL c,aE t] (elms (cF c n' (bY n' false t))):=by
 have hmd:=made_c hc;have hw:=with_c (c:=dZ c) (lg:=lgE (dZ c).es) (M:=mpE (dZ c).es) hN;have hlg:lgE (dZ c).es<=8:=lgE_le λe he=>(jb (jf e he)).2.1
 obtain⟨hM1,hM2,_⟩:=rr (c:=c);have hbs:=qz (c:=c);have htl:=sr hN.g false t;have hcn:=hN.ok.cl;have hrs:=hN.g.cls.rise;unfold cF;generalize dZ c=U at *;generalize lgE U.es=lg at *;generalize mpE U.es=M at *;generalize uu n'.cl=tp at *;refine Pu.of_v aA T0 Tryz.func70 rfl rfl (aQ (eP n) (aQ (c7 c) (aQ (aG _) rfl))) ?_;by_cases hne:bY n' false t=[]
 ·have hT:=ux (k:=false) hN ht;rw[hne] at hT ⊢;repeat' ((conv=>whnf);first|refine ax.dr (id:=1) ?_|refine bk (λh=>absurd h si) (λ_=>?_)|exact kQ|(refine bk ?_ ?_<;>intro _<;>try(exfalso;omega))|refine stq ?_|refine cp hT ?_|refine ab.byW (id:=1) aA T0 [0,1,0,7,15] (by kernel_rfl) ?_|refine Cll.pk hmd ?_|refine Cll.emb hw [(0,8),(1,9)] [] (.ptr 8 0) [(8,.cells (fB U 9 lg n'.cl tp) true),(9,.map (d5 M))] [(0,.cells (nmC n) true)] rfl aq bxA rdA bxA reA ?_|refine Chk.mk ⟨_,rfl⟩ ?_|refine aH.times aA T0 1 ?_|fail)
  all_goals(conv=>whnf)
  exact⟨.nil⟩
 ·have hT:=B5 (k:=false) hN ht hne;generalize bY n' false t=s0 at *;obtain⟨x0,xs0,rfl⟩:=List.exists_cons_of_ne_nil hne;obtain⟨R,hR⟩:∃ R,elF (mtF U lg M n'.cl tp) (x0::xs0).length (x0::xs0)=R:=⟨_,rfl⟩;rw[hR];repeat' ((conv=>whnf);first|refine ax.dr (id:=1) ?_|exact kQ|(refine bk ?_ ?_<;>intro _<;>try(exfalso;omega))|refine stq ?_|refine ab.byW (id:=1) aA T0 [0,1,0,7,15] (by kernel_rfl) ?_|refine Cll.pk hmd ?_|refine Cll.emb hw [(0,8),(1,9)] [] (.ptr 8 0) [(8,.cells (fB U 9 lg n'.cl tp) true),(9,.map (d5 M))] [(0,.cells (nmC n) true)] rfl aq bxA rdA bxA reA ?_|refine Cll.emb hT [] [] (slO2 14 (x0::xs0).length) [(14,.cells ((x0::xs0).map aa) false)] [(8,.cells (fB U 9 lg n'.cl tp) true),(9,.map (d5 M))] rfl aq bxA rdA bxA reA ?_|refine Chk.mk ⟨_,rfl⟩ ?_|fail)
  refine aH.by3 aA T0 (λ(P s:List Int) (acc:List Elm)=>⟨tmp 37 [(7,.ptr 0 0),(8,bG 3 4 acc),(9,seqD P.length s)],⟨4,fdH U lg M n'.cl tp (P++s)++bJ 3 hZ acc⟩⟩)
   (λP s acc=>(∃ f,s.length<=f∧R=acc++elF (mtF U lg M n'.cl tp) f s)∧P.length+s.length<=100000∧acc.length<=16*P.length) (λ_ s _=>s.length) [] (x0::xs0) [] ⟨⟨_,kP _,hR.symm⟩,by simp at htl ⊢;omega,by simp⟩ ?_ ?_
  ·exact lq [(0,8),(1,9),(2,14)] []
  clear hT hmd hw hR;intro P s acc ⟨⟨f,g1,g2⟩,g3,g4⟩;cases s with
  | nil=>
   have e0:elF (mtF U lg M n'.cl tp) f []=[]:=by cases f<;>simp[elF]
   rw[e0,List.append_nil] at g2;subst g2;cases R with
   | nil=>
    repeat' ((conv=>whnf);first|exact kQ|(refine bk ?_ ?_<;>intro _<;>try(exfalso;omega))|refine stq ?_|fail)
    all_goals(conv=>whnf)
    exact⟨.nil⟩
   | cons x xs=>
    repeat' ((conv=>whnf);first|exact kQ|(refine bk ?_ ?_<;>intro _<;>try(exfalso;omega))|refine stq ?_|fail)
    all_goals(conv=>whnf)
    exact⟨Rd.frzL (c:=hZ) (sz:=4) (λ_=>rfl) (λ_=>rfl) rfl rfl rfl rfl rfl⟩
  | cons a bs=>
   have ha1:(a::bs).length=bs.length+1:=rfl;obtain⟨f,rfl⟩:∃ g,f=g+1:=⟨f-1,by omega⟩;have hok:=mtF_ok (c:=U) (lg:=lg) (M:=M) (cl:=n'.cl) (tp:=tp) (s:=a::bs) om;have hfew:=wi (c:=U) (lg:=lg) (cl:=n'.cl) (tp:=tp) (s:=a::bs) hM2;have hb:=CV (c:=U) (lg:=lg) (M:=M) (cl:=n'.cl) (tp:=tp) (P:=P) (s:=a::bs) (o:=P.length) (cp:=(a::bs).length) ⟨hbs.1,hbs.2.1⟩ hlg hM1 hcn hrs rfl om (kP _) (by simp at g3 ⊢;omega)
   have hE:R=acc++(mtF U lg M n'.cl tp (a::bs)).1.2.1++elF (mtF U lg M n'.cl tp) f ((mtF U lg M n'.cl tp (a::bs)).2.drop (mtF U lg M n'.cl tp (a::bs)).1.1):=by
    rw[g2,elF,if_neg si,List.append_assoc]
   clear g2;generalize mtF U lg M n'.cl tp (a::bs)=r at *;obtain⟨k1,k2,k3⟩:=hok;have hA:(acc++r.1.2.1).length<=16*(P++r.2.take r.1.1).length:=by simp;omega
   have hcm:((P++r.2.take r.1.1)++r.2.drop r.1.1).map aa=(P++r.2).map aa:=by rw[List.append_assoc,List.take_append_drop]
   have hp1:(r.2.take r.1.1).length=r.1.1:=by simp;omega
   have hq1:(r.2.drop r.1.1).length=(a::bs).length-r.1.1:=by simp;omega
   generalize r.2.take r.1.1=p at *;generalize r.2.drop r.1.1=q at *;by_cases hsz:r.1.1=(a::bs).length
   ·have hd:q=[]:=List.eq_nil_of_length_eq_zero om;subst hd;have hv0:([]:List Elm).length=0:=rfl;cases acc with
    | nil=>
     cases hel:r.1.2.1 with
     | nil=>
      rw[hel] at hb hE hA hfew;repeat' ((conv=>whnf);first|exact kQ|(refine bk ?_ ?_<;>intro _<;>try(exfalso;omega))|refine stq ?_|refine Cll.emb hb [(0,0),(1,1),(2,2)] [] (.tup [i64 (r.1.1:Int),elms [],boo r.1.2.2]) [(0,.cells (fB U 1 lg n'.cl tp) true),(1,.map (d5 M)),(2,.cells ((P++r.2).map i64) false)] [] rfl aq bxA rdA bxA reA ?_|refine Chk.mk ⟨by omega,by omega,by omega⟩ ?_|fail)
      all_goals(conv=>whnf)
      refine⟨P++p,[],[],⟨⟨f,sim,hE⟩,sim,hA⟩,sim,?_⟩;exact lq [(0,0),(1,1),(2,2)] []
     | cons y ys=>
      have hv1:(y::ys).length=ys.length+1:=rfl;rw[hel] at hb hE hA hfew;repeat' ((conv=>whnf);first|exact kQ|(refine bk ?_ ?_<;>intro _<;>try(exfalso;omega))|refine stq ?_|refine Cll.emb hb [(0,0),(1,1),(2,2)] [] (.tup [i64 (r.1.1:Int),elms (y::ys),boo r.1.2.2]) [(0,.cells (fB U 1 lg n'.cl tp) true),(1,.map (d5 M)),(2,.cells ((P++r.2).map i64) false)] [] rfl aq bxA rdA bxA reA ?_|refine ad.elms ?_|refine Chk.room 32 rfl om om ?_|refine Chk.growX 32 4 rfl rfl om om (by rw[gO];omega) ?_|refine Chk.mk ⟨by omega,by omega,by omega⟩ ?_|fail)
      all_goals(conv=>whnf)
      refine⟨P++p,[],(y::ys),⟨⟨f,sim,hE⟩,sim,hA⟩,sim,?_⟩;exact lq [(0,0),(1,1),(2,2),(3,19)] []
    | cons x xs=>
     have hx1:(x::xs).length=xs.length+1:=rfl;cases hel:r.1.2.1 with
     | nil=>
      rw[hel] at hb hE hA hfew;rw[List.append_nil] at hE hA;repeat' ((conv=>whnf);first|exact kQ|(refine bk ?_ ?_<;>intro _<;>try(exfalso;omega))|refine stq ?_|refine Cll.emb hb [(0,0),(1,1),(2,2)] [] (.tup [i64 (r.1.1:Int),elms [],boo r.1.2.2]) [(0,.cells (fB U 1 lg n'.cl tp) true),(1,.map (d5 M)),(2,.cells ((P++r.2).map i64) false)] [(3,.cells ((x::xs).flatMap hZ) false)] rfl aq bxA rdA bxA reA ?_|refine ad.elms ?_|refine Chk.mk (gn _) ?_|refine Chk.mk (by rw[gO];omega) ?_|refine Chk.mk ⟨by omega,by omega,by omega⟩ ?_|fail)
      all_goals(conv=>whnf)
      refine⟨P++p,[],(x::xs),⟨⟨f,sim,hE⟩,sim,hA⟩,sim,?_⟩;exact lq [(0,0),(1,1),(2,2),(3,3)] []
     | cons y ys=>
      have hv1:(y::ys).length=ys.length+1:=rfl;rw[hel] at hb hE hA hfew;repeat' ((conv=>whnf);first|exact kQ|(refine bk ?_ ?_<;>intro _<;>try(exfalso;omega))|refine stq ?_|refine Cll.emb hb [(0,0),(1,1),(2,2)] [] (.tup [i64 (r.1.1:Int),elms (y::ys),boo r.1.2.2]) [(0,.cells (fB U 1 lg n'.cl tp) true),(1,.map (d5 M)),(2,.cells ((P++r.2).map i64) false)] [(3,.cells ((x::xs).flatMap hZ) false)] rfl aq bxA rdA bxA reA ?_|refine ad.elms ?_|refine Chk.mk (gn _) ?_|refine Chk.room 32 rfl om om ?_|refine Chk.growX 32 4 rfl rfl om om (by rw[gO];omega) ?_|refine Chk.mk ⟨by omega,by omega,by omega⟩ ?_|fail)
      all_goals(conv=>whnf)
      refine⟨P++p,[],((x::xs)++(y::ys)),⟨⟨f,sim,hE⟩,sim,hA⟩,sim,?_⟩;exact lq [(0,0),(1,1),(2,2),(3,19)] []
   ·obtain⟨b2,q2,rfl⟩:=List.exists_cons_of_ne_nil (show q≠[] from λh=>by rw[h] at hq1;simp only[List.length_nil] at hq1;omega);have hq2:(b2::q2).length=q2.length+1:=rfl;have hv0:([]:List Elm).length=0:=rfl;cases acc with
    | nil=>
     cases hel:r.1.2.1 with
     | nil=>
      rw[hel] at hb hE hA hfew;repeat' ((conv=>whnf);first|exact kQ|(refine bk ?_ ?_<;>intro _<;>try(exfalso;omega))|refine stq ?_|refine Cll.emb hb [(0,0),(1,1),(2,2)] [] (.tup [i64 (r.1.1:Int),elms [],boo r.1.2.2]) [(0,.cells (fB U 1 lg n'.cl tp) true),(1,.map (d5 M)),(2,.cells ((P++r.2).map i64) false)] [] rfl aq bxA rdA bxA reA ?_|refine Chk.mk ⟨by omega,by omega,by omega⟩ ?_|fail)
      all_goals(conv=>whnf)
      refine⟨P++p,b2::q2,[],⟨⟨f,sim,hE⟩,sim,hA⟩,sim,?_⟩;exact lq [(0,0),(1,1),(2,2)] []
     | cons y ys=>
      have hv1:(y::ys).length=ys.length+1:=rfl;rw[hel] at hb hE hA hfew;repeat' ((conv=>whnf);first|exact kQ|(refine bk ?_ ?_<;>intro _<;>try(exfalso;omega))|refine stq ?_|refine Cll.emb hb [(0,0),(1,1),(2,2)] [] (.tup [i64 (r.1.1:Int),elms (y::ys),boo r.1.2.2]) [(0,.cells (fB U 1 lg n'.cl tp) true),(1,.map (d5 M)),(2,.cells ((P++r.2).map i64) false)] [] rfl aq bxA rdA bxA reA ?_|refine ad.elms ?_|refine Chk.room 32 rfl om om ?_|refine Chk.growX 32 4 rfl rfl om om (by rw[gO];omega) ?_|refine Chk.mk ⟨by omega,by omega,by omega⟩ ?_|fail)
      all_goals(conv=>whnf)
      refine⟨P++p,b2::q2,(y::ys),⟨⟨f,sim,hE⟩,sim,hA⟩,sim,?_⟩;exact lq [(0,0),(1,1),(2,2),(3,19)] []
    | cons x xs=>
     have hx1:(x::xs).length=xs.length+1:=rfl;cases hel:r.1.2.1 with
     | nil=>
      rw[hel] at hb hE hA hfew;rw[List.append_nil] at hE hA;repeat' ((conv=>whnf);first|exact kQ|(refine bk ?_ ?_<;>intro _<;>try(exfalso;omega))|refine stq ?_|refine Cll.emb hb [(0,0),(1,1),(2,2)] [] (.tup [i64 (r.1.1:Int),elms [],boo r.1.2.2]) [(0,.cells (fB U 1 lg n'.cl tp) true),(1,.map (d5 M)),(2,.cells ((P++r.2).map i64) false)] [(3,.cells ((x::xs).flatMap hZ) false)] rfl aq bxA rdA bxA reA ?_|refine ad.elms ?_|refine Chk.mk (gn _) ?_|refine Chk.mk (by rw[gO];omega) ?_|refine Chk.mk ⟨by omega,by omega,by omega⟩ ?_|fail)
      all_goals(conv=>whnf)
      refine⟨P++p,b2::q2,(x::xs),⟨⟨f,sim,hE⟩,sim,hA⟩,sim,?_⟩;exact lq [(0,0),(1,1),(2,2),(3,3)] []
     | cons y ys=>
      have hv1:(y::ys).length=ys.length+1:=rfl;rw[hel] at hb hE hA hfew;repeat' ((conv=>whnf);first|exact kQ|(refine bk ?_ ?_<;>intro _<;>try(exfalso;omega))|refine stq ?_|refine Cll.emb hb [(0,0),(1,1),(2,2)] [] (.tup [i64 (r.1.1:Int),elms (y::ys),boo r.1.2.2]) [(0,.cells (fB U 1 lg n'.cl tp) true),(1,.map (d5 M)),(2,.cells ((P++r.2).map i64) false)] [(3,.cells ((x::xs).flatMap hZ) false)] rfl aq bxA rdA bxA reA ?_|refine ad.elms ?_|refine Chk.mk (gn _) ?_|refine Chk.room 32 rfl om om ?_|refine Chk.growX 32 4 rfl rfl om om (by rw[gO];omega) ?_|refine Chk.mk ⟨by omega,by omega,by omega⟩ ?_|fail)
      all_goals(conv=>whnf)
      refine⟨P++p,b2::q2,((x::xs)++(y::ys)),⟨⟨f,sim,hE⟩,sim,hA⟩,sim,?_⟩;exact lq [(0,0),(1,1),(2,2),(3,19)] []
end Go.Proofs.YticpeeooobajgaaGreatDoor
