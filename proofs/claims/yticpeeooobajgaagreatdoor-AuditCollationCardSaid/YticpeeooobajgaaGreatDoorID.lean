/-
  Contracts over data: colltable.match.
-/
import Derived.Test.YticpeeooobajgaaGreatDoorIB
set_option linter.unusedSectionVars false
namespace Go.Proofs.YticpeeooobajgaaGreatDoor
open Go Go.Am Classical
set_option maxRecDepth 100000
set_option linter.unusedVariables false
theorem xID.rdX {p:Prop}(h:p:=by first|exact Rd.same (bO _)|exact Rd.same (bN _)|exact Rd.same (aO _)|exact Rd.int om|exact Rd.tup (.cons (.same rfl) (.cons (.same (cS _)) (.cons (.same rfl) .nil)))|exact Rd.tup (.cons (.same rfl) (.cons .nil (.cons (.same rfl) .nil)))|exact Rd.same (cS _)|exact Rd.slO rfl om om om|exact Rd.tup (.cons (.same (cS _)) (.cons (.same rfl) .nil))|exact Rd.slO rfl rfl om om|fail):p:=h
theorem xID.rbX {p:Prop}(h:p:=by first|exact Rb.map (Res.same (vU _))|exact Rb.cells (Rds.eqs (yM hp hzi om om om om om om hx) (aN (λ_=>rfl) _)) rfl|exact Rb.cells (Rds.eqs (BZ om sim hp) (aN (λ_=>rfl) _)) rfl|fail):p:=h
open xID
def mtF (c:Col) (lg:Nat) (M:List (List Int×List Elm)) (cl:List Spn) (tp:Int) (s:List Int):(Nat×List Elm×Bool)×List Int:=
 if sz1 (bP lg M) s (min lg s.length)=0 then((1,qI c (s.getD 0 0),false),s)
 else(((m2 (bP lg M) (aK cl) tp (s.length-sz1 (bP lg M) s (min lg s.length)) (sz1 (bP lg M) s (min lg s.length)) (sz1 (bP lg M) s (min lg s.length)) 0 s).1,
   (bP lg M ((m2 (bP lg M) (aK cl) tp (s.length-sz1 (bP lg M) s (min lg s.length)) (sz1 (bP lg M) s (min lg s.length)) (sz1 (bP lg M) s (min lg s.length)) 0 s).2.take (m2 (bP lg M) (aK cl) tp (s.length-sz1 (bP lg M) s (min lg s.length)) (sz1 (bP lg M) s (min lg s.length)) (sz1 (bP lg M) s (min lg s.length)) 0 s).1)).getD [],true),
   (m2 (bP lg M) (aK cl) tp (s.length-sz1 (bP lg M) s (min lg s.length)) (sz1 (bP lg M) s (min lg s.length)) (sz1 (bP lg M) s (min lg s.length)) 0 s).2)
theorem Chk.growO {a b:Nat}{q K:Prop}(e:b=8) (h1:a*8<=1099511627776) (h2:a<=1099511627776) (h3:q) (go:K):Chk (a*b<=aW∧a<=aW∧q) K:=⟨by subst e;exact⟨h1,h2,h3⟩,go⟩
theorem BZ {P t:List Int}{o z a b:Nat}{x:Int}(ha:a=z) (hb:b=o) (hp:P.length=o):(((P++t).map i64).drop b).take a++[i64 x]=(t.take z++[x]).map i64:=by
 subst ha;subst hb;subst hp;rw[<-List.map_drop,List.drop_left,<-List.map_take,List.map_append];rfl
theorem yM {P s:List Int}{o z i a b n m q:Nat}{x:Int}(hp:P.length=o) (hz:z<i) (hi:i<s.length) (ha:a=o+(z+1)) (hb:b=o+z) (hn:n=i-z) (hm:m=i-z) (hq:q=o+z) (hx:x=s.getD i 0) :
  (splice ((P++s).map aa) a (List.take (min n m*1) ((((P++s).map aa).drop b).take (n*1)))).set q (i64 x)=(P++mv s z i).map aa:=by
 subst ha;subst hb;subst hn;subst hm;subst hq;subst hx;rw[List.take_take,show min (min (i-z) (i-z)*1) ((i-z)*1)=(i-z)*1 by omega];have:=AX hp hz hi
 rwa [Nat.mul_one (z+1),Nat.mul_one z] at this
theorem later2 {r p q:Prop}(h:r->p) (k:Lat (r->p)->q):q:=k ⟨h⟩
theorem wW {h:aB}{fz:Nat->Bool}{σ:Nat->Option Nat}{c:Col}{m lg:Nat}{cl:List Spn}{tp:Int}:Rds h fz σ (fB c m lg cl tp) (xv c lg cl tp):=
 .cons (.same (bO _)) (.cons (.same (bN _)) (.cons (.same rfl) (.cons (.same rfl) (.cons (.same rfl) (.cons .any (.cons (.same rfl) (.cons (.same (aO _)) (.cons (.same rfl) .nil))))))))
theorem wa {P s:List Int}{o k:Nat}(hp:P.length=o):((P++s).drop o).take k=s.take k:=by rw[List.drop_left' hp]
set_option maxHeartbeats 8000000 in
theorem CV {c:Col}{lg:Nat}{M:List (List Int×List Elm)}{cl:List Spn}{tp:Int}{P s:List Int}{o cp:Nat}(hb:1<=c.b∧c.b<=65502) (hlg:lg<=8) (hM:∀ p∈M,p.1.length<=8) (hcl:cl.length<=1000) (hr:ic cl)
  (hp:P.length=o) (hs:0<s.length) (hcp:s.length<=cp) (hl:(P++s).length<=100000) :
  AC1 Tryz.prog 150 [.ptr 0 0,.sl 2 o s.length cp 1 false] ⟨3,fdH c lg M cl tp (P++s)⟩ (.tup [i64 (mtF c lg M cl tp s).1.1,elms (mtF c lg M cl tp s).1.2.1,boo (mtF c lg M cl tp s).1.2.2]) ⟨3,fdH c lg M cl tp (P++(mtF c lg M cl tp s).2)⟩:=by
 refine AC1.of_vf aA T0 Tryz.func150 rfl rfl ?_;have hll:P.length+s.length<=100000:=by simpa using hl
 have hlP:(P++s).length=P.length+s.length:=by simp
 have hfd:=λ(k cp':Nat) (hk:k<=s.length)=>vg (c:=c) (lg:=lg) (M:=M) (cl:=cl) (tp:=tp) (l:=P++s) (o:=o) (k:=k) (cp:=cp') hlg hM om om
 simp only[wa hp] at hfd;obtain⟨z,hz⟩:∃ z,sz1 (bP lg M) s (min lg s.length)=z:=⟨_,rfl⟩;have hzl:=uz (bP lg M) s (min lg s.length);have hzn:=λj=>s5 (fd:=bP lg M) (s:=s) (k:=min lg s.length) (j:=j)
 unfold mtF;rw[hz];rw[hz] at hzl hzn;apply later
 case k=>
  intro key;rcases Nat.lt_or_ge s.length lg with hmn|hmn
  all_goals
   repeat' ((conv=>whnf);first|refine ax.weak (x:=Code.seq (Code.block 0 _) _) aA T0 (s0:=⟨tmp 114 [(0,.ptr 0 0),(1,.sl 2 o s.length cp 1 false),(7,i64 (min lg s.length:Nat))],⟨3,fdH c lg M cl tp (P++s)⟩⟩) ?_ key.out|exact kQ|(refine bk ?_ ?_<;>intro _<;>try(exfalso;omega))|refine stq ?_|fail)
   exact lq0
 repeat' ((conv=>whnf);first|exact kQ|(refine bk ?_ ?_<;>intro _<;>try(exfalso;omega))|refine stq ?_|fail)
 refine aH.by aA T0 (λk:Nat=>⟨tmp 114 [(0,.ptr 0 0),(1,.sl 2 o s.length cp 1 false),(7,i64 (k:Int))],⟨3,fdH c lg M cl tp (P++s)⟩⟩) (λk=>k<=min lg s.length∧sz1 (bP lg M) s k=z) (λk=>k) (min lg s.length) ⟨by omega,hz⟩ ?_ ?_
 ·exact lq0
 intro k ⟨h1,h2⟩;cases k with
 | zero=>
  have h3:z=0:=h2.symm;subst h3;rw[if_pos rfl]
  have hx:(P++s)[o+0]'(by omega)=s.getD 0 0:=by
   have:=mu (P:=P) (A:=s) (S:=[]) (k:=o+0) om om
   rw[List.append_nil,gDe om,show o+0-P.length=0 by omega] at this;exact this
  rw[<-hx];have him:=impl_c (c:=c) (lg:=lg) (M:=M) (cl:=cl) (tp:=tp) (x:=(P++s)[o+0]'(by omega)) hb;repeat' ((conv=>whnf);first|exact kQ|(refine bk ?_ ?_<;>intro _<;>try(exfalso;omega))|refine stq ?_|refine az.at 0 om om ?_|refine Get.mapO (k:=0) om ?_|refine Cll.emb him [(0,0),(1,1)] [] (elms (qI c ((P++s)[o+0]'(by omega)))) [(0,.cells (fB c 1 lg cl tp) true),(1,.map (d5 M))] [(2,.cells ((P++s).map i64) false)] rfl aq bxA rdA bxA reA ?_|fail)
  all_goals(conv=>whnf)
  refine⟨Or.inr rfl,_,rfl,?_⟩;exact lq0
 | succ k=>
  cases hf:bP lg M (s.take (k+1)) with
  | none=>
   have h4:sz1 (bP lg M) s k=z:=by rw[<-h2,sz1,hf];rfl
   have hb2:=hfd (k+1) (cp-0) om;rw[hf] at hb2;repeat' ((conv=>whnf);first|exact kQ|(refine bk ?_ ?_<;>intro _<;>try(exfalso;omega))|refine stq ?_|refine Chk.mk ⟨by omega,by omega,by omega⟩ ?_|refine Cll.emb hb2 [(0,0),(1,1),(2,2)] [] (.tup [aT,boo false]) [(0,.cells (fB c 1 lg cl tp) true),(1,.map (d5 M)),(2,.cells ((P++s).map i64) false)] [] rfl aq bxA rdA bxA reA ?_|fail)
   all_goals(conv=>whnf)
   refine⟨k,⟨by omega,h4⟩,by omega,?_⟩;exact lq0
  | some v=>
   have h4:z=k+1:=by rw[<-h2,sz1,hf];rfl
   subst h4;have hb2:=hfd (k+1) (cp-0) om;rw[hf] at hb2;rw[if_neg om]
   have hz0:k+1<s.length->bP lg M (s.take (k+1)++[s.getD (k+1) 0])=none:=λhlt=>by
    rw[gDe hlt,<-ao hlt];by_cases hle:k+1+1<=lg
    ·exact hzn (k+1+1) om om
    ·unfold bP;rw[if_pos (.inr (by simp;omega))]
   clear hfd hzn hz h2;generalize hR:m2 (bP lg M) (aK cl) tp (s.length-(k+1)) (k+1) (k+1) 0 s=R;repeat' ((conv=>whnf);first|exact kQ|(refine bk ?_ ?_<;>intro _<;>try(exfalso;omega))|refine stq ?_|refine Chk.mk ⟨by omega,by omega,by omega⟩ ?_|refine Cll.emb hb2 [(0,0),(1,1),(2,2)] [] (.tup [elms v,boo true]) [(0,.cells (fB c 1 lg cl tp) true),(1,.map (d5 M)),(2,.cells ((P++s).map i64) false)] [] rfl aq bxA rdA bxA reA ?_|fail)
   refine aH.by3 aA T0 (λ(i:Nat) (zl:Nat×Int) (t:List Int)=>⟨tmp 114 [(0,.ptr 0 0),(1,.sl 2 o s.length cp 1 false),(7,i64 (zl.1:Int)),(10,i64 zl.2),(11,i64 (i:Int))],⟨3,fdH c lg M cl tp (P++t)⟩⟩)
    (λi zl t=>(t.length=s.length∧1<=zl.1∧zl.1<=i∧i<=s.length)∧(zl.1=i->i<s.length->bP lg M (t.take zl.1++[t.getD i 0])=none)∧m2 (bP lg M) (aK cl) tp (s.length-i) i zl.1 zl.2 t=R) (λi _ _=>s.length-i) (k+1) (k+1,0) s ⟨⟨rfl,by simp,by simp,by omega⟩,λ_ h=>hz0 h,hR⟩ ?_ ?_
   ·exact lq0
   clear hb2 hz0 hf hR;intro i ⟨z,l⟩ t ⟨⟨g1,g2,g3,g4⟩,g5,g6⟩;simp only at g2 g3 g5 g6;dsimp only;have ht:(P++t).length=P.length+s.length:=by simp;omega
   apply later2 (r:=R=(z,t))
   case k=>
    intro key;by_cases hi:i<s.length
    ·have hx:(P++t)[o+i]'(by omega)=t.getD i 0:=by
      have:=mu (P:=P) (A:=t) (S:=[]) (k:=o+i) om om
      rw[List.append_nil,gDe om,show o+i-P.length=i by omega] at this;exact this
     rw[show s.length-i=(s.length-(i+1))+1 by omega,m2] at g6;by_cases hlt:l<tp
     ·rw[if_pos ⟨by omega,hlt⟩,<-hx] at g6;rw[<-hx] at g5;have hcx:=zc (c:=c) (lg:=lg) (cl:=cl) (tp:=tp) (x:=(P++t)[o+i]'(by omega)) hcl hr;by_cases hk0:aK cl ((P++t)[o+i]'(by omega))=0
      ·rw[if_pos hk0] at g6;have hRz:=g6.symm;rw[hk0] at hcx;repeat' ((conv=>whnf);first|refine ax.weak (x:=Code.seq (Code.region 22 _ false) _) aA T0 (s0:=⟨tmp 114 [(0,.ptr 0 0),(1,.sl 2 o s.length cp 1 false),(7,i64 (z:Int))],⟨3,fdH c lg M cl tp (P++t)⟩⟩) ?_ (key.out hRz)|exact kQ|(refine bk ?_ ?_<;>intro _<;>try(exfalso;omega))|refine stq ?_|refine az.at i om om ?_|refine Get.mapO om ?_|refine Cll.borrow (.cons (Rd.frzp rfl rfl wW) (.cons (.same rfl) .nil)) hcx ?_|fail)
       all_goals
        exact lq0
      ·rw[if_neg hk0] at g6;by_cases hkl:aK cl ((P++t)[o+i]'(by omega))<=l
       ·rw[if_pos hkl] at g6;repeat' ((conv=>whnf);first|exact kQ|(refine bk ?_ ?_<;>intro _<;>try(exfalso;omega))|refine stq ?_|refine az.at i om om ?_|refine Get.mapO om ?_|refine Cll.borrow (.cons (Rd.frzp rfl rfl wW) (.cons (.same rfl) .nil)) hcx ?_|fail)
        all_goals(conv=>whnf)
        refine⟨i+1,(z,l),t,⟨⟨g1,g2,by simp only;omega,by omega⟩,λh=>by simp only at h;omega,g6⟩,by omega,?_⟩;exact lq0
       ·rw[if_neg hkl] at g6;have hb3:=vg (c:=c) (lg:=lg) (M:=M) (cl:=cl) (tp:=tp) (l:=t.take z++[(P++t)[o+i]'(by omega)]) (o:=0) (k:=z+1) (cp:=z+1) hlg hM (by simp;omega) (by simp;omega);rw[show((t.take z++[(P++t)[o+i]'(by omega)]).drop 0).take (z+1)=t.take z++[(P++t)[o+i]'(by omega)] by rw[List.drop_zero,kE (by simp;omega)]] at hb3;cases hf:bP lg M (t.take z++[(P++t)[o+i]'(by omega)]) with
        | none=>
         rw[hf] at hb3;simp only[hf] at g6;repeat' ((conv=>whnf);first|exact kQ|(refine bk ?_ ?_<;>intro _<;>try(exfalso;omega))|refine stq ?_|refine az.at i om om ?_|refine Get.mapO om ?_|refine Cll.borrow (.cons (Rd.frzp rfl rfl wW) (.cons (.same rfl) .nil)) hcx ?_|refine Chk.mk ⟨by omega,by omega,by omega,by omega,by omega⟩ ?_|refine ad.own (es:=1) rfl si ?_|refine Chk.mk rfl ?_|refine Chk.growO rfl om om (by simp;omega) ?_|refine Cll.emb hb3 [(0,0),(1,1),(2,36)] [] (.tup [aT,boo false]) [(0,.cells (fB c 1 lg cl tp) true),(1,.map (d5 M)),(36,.cells ((t.take z++[(P++t)[o+i]'(by omega)]).map i64) false)] [(2,.cells ((P++t).map i64) false)] rfl aq bxA rdA bxA reA ?_|fail)
         all_goals(conv=>whnf)
         refine⟨i+1,(z,aK cl ((P++t)[o+i]'(by omega))),t,⟨⟨g1,g2,by simp only;omega,by omega⟩,λh=>by simp only at h;omega,g6⟩,by omega,?_⟩;exact lq0
        | some v=>
         have hzi:z<i:=by
          rcases Nat.lt_or_eq_of_le g3 with h|h
          ·exact h
          ·exact absurd (hf.symm.trans (g5 h hi)) si
         rw[hf] at hb3;simp only[hf] at g6;repeat' ((conv=>whnf);first|exact kQ|(refine bk ?_ ?_<;>intro _<;>try(exfalso;omega))|refine stq ?_|refine ab.by (id:=19) aA T0 [0,0,2,0,8,31,0,0,0,448,1023] (by kernel_rfl) ?_|refine az.at i om om ?_|refine Get.mapO om ?_|refine az.at z om om ?_|refine Put.at (by simp[splice];omega) ?_|refine Cll.borrow (.cons (Rd.frzp rfl rfl wW) (.cons (.same rfl) .nil)) hcx ?_|refine ad.own (es:=1) rfl (by simp;omega) ?_|refine Chk.mk (qc _ _ _) ?_|refine Chk.mk ⟨by omega,by omega,by omega⟩ ?_|refine Chk.mk (by simp;omega) ?_|refine Chk.mk ⟨by omega,by omega,by omega,by omega,by omega⟩ ?_|refine ad.own (es:=1) rfl si ?_|refine Chk.mk rfl ?_|refine Chk.growO rfl om om (by simp;omega) ?_|refine Cll.emb hb3 [(0,0),(1,1),(2,36)] [] (.tup [elms v,boo true]) [(0,.cells (fB c 1 lg cl tp) true),(1,.map (d5 M)),(36,.cells ((t.take z++[(P++t)[o+i]'(by omega)]).map i64) false)] [(2,.cells ((P++t).map i64) false)] rfl aq bxA rdA bxA reA ?_|fail)
         all_goals(conv=>whnf)
         refine⟨i+1,(z+1,l),mv t z i,⟨⟨by rw[AW om om];exact g1,by simp only;omega,by simp only;omega,by omega⟩,λh=>by simp only at h;omega,g6⟩,by omega,?_⟩;exact lq0
     ·rw[if_neg λh=>hlt h.2] at g6;have hRz:=g6.symm;repeat' ((conv=>whnf);first|refine ax.weak (x:=Code.seq (Code.region 22 _ false) _) aA T0 (s0:=⟨tmp 114 [(0,.ptr 0 0),(1,.sl 2 o s.length cp 1 false),(7,i64 (z:Int))],⟨3,fdH c lg M cl tp (P++t)⟩⟩) ?_ (key.out hRz)|exact kQ|(refine bk ?_ ?_<;>intro _<;>try(exfalso;omega))|refine stq ?_|fail)
      all_goals
       exact lq0
    ·rw[show s.length-i=0 by omega,m2] at g6;have hRz:=g6.symm;repeat' ((conv=>whnf);first|refine ax.weak (x:=Code.seq (Code.region 22 _ false) _) aA T0 (s0:=⟨tmp 114 [(0,.ptr 0 0),(1,.sl 2 o s.length cp 1 false),(7,i64 (z:Int))],⟨3,fdH c lg M cl tp (P++t)⟩⟩) ?_ (key.out hRz)|exact kQ|(refine bk ?_ ?_<;>intro _<;>try(exfalso;omega))|refine stq ?_|fail)
     all_goals
      exact lq0
   case h=>
    intro hRz;subst hRz;have hb4:=vg (c:=c) (lg:=lg) (M:=M) (cl:=cl) (tp:=tp) (l:=P++t) (o:=o) (k:=z) (cp:=cp-0) hlg hM om om;rw[wa hp] at hb4;cases hf:bP lg M (t.take z) with
    | none=>
     rw[hf] at hb4;repeat' ((conv=>whnf);first|exact kQ|(refine bk ?_ ?_<;>intro _<;>try(exfalso;omega))|refine stq ?_|refine Chk.mk ⟨by omega,by omega,by omega⟩ ?_|refine Cll.emb hb4 [(0,0),(1,1),(2,2)] [] (.tup [aT,boo false]) [(0,.cells (fB c 1 lg cl tp) true),(1,.map (d5 M)),(2,.cells ((P++t).map i64) false)] [] rfl aq bxA rdA bxA reA ?_|fail)
     all_goals(conv=>whnf)
     refine⟨Or.inr rfl,_,rfl,?_⟩;exact lq0
    | some v=>
     rw[hf] at hb4;repeat' ((conv=>whnf);first|exact kQ|(refine bk ?_ ?_<;>intro _<;>try(exfalso;omega))|refine stq ?_|refine Chk.mk ⟨by omega,by omega,by omega⟩ ?_|refine Cll.emb hb4 [(0,0),(1,1),(2,2)] [] (.tup [elms v,boo true]) [(0,.cells (fB c 1 lg cl tp) true),(1,.map (d5 M)),(2,.cells ((P++t).map i64) false)] [] rfl aq bxA rdA bxA reA ?_|fail)
     all_goals(conv=>whnf)
     refine⟨Or.inr rfl,_,rfl,?_⟩;exact lq0
end Go.Proofs.YticpeeooobajgaaGreatDoor
