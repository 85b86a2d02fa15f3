/-
  The weights of an element: joined.
-/
import Derived.Test.YticpeeooobajgaaGreatDoorIK
import Derived.Test.YticpeeooobajgaaGreatDoorIL
import Derived.Test.YticpeeooobajgaaGreatDoorIM
import Derived.Test.YticpeeooobajgaaGreatDoorIJ
import Derived.Test.YticpeeooobajgaaGreatDoorIE
set_option linter.unusedSectionVars false
namespace Go.Proofs.YticpeeooobajgaaGreatDoor
section
open Go Go.Am Classical
set_option maxRecDepth 100000
set_option linter.unusedVariables false
set_option maxHeartbeats 800000
theorem Bz {vr:Int}{fol:Bool}{e:Elm}:AC1 Tryz.prog 257 [.agg (hZ e),.iptr [i64 vr],.ptr 0 0] ⟨1,[(0,.cells [boo fol] true)]⟩ (gX (wgt vr fol e).1) ⟨1,[(0,.cells [boo (wgt vr fol e).2] true)]⟩:=by
 obtain⟨p,s,t,v⟩:=e;have e4:∀ ox oy,bA Tryz.prog .neq 243 ox oy (.agg [i64 p,i64 s,i64 t,i64 0]) (.agg [i64 0,i64 0,i64 0,i64 0])=some (boo (!decide ([p,s,t,0]=[0,0,0,0]))):=λox oy=>arr4 (us:=[p,s,t,0]) (ox:=ox) (oy:=oy) rfl
 by_cases hz:[p,s,t,0]=[0,0,0,0]
 ·rw[decide_eq_true hz] at e4;by_cases h1:vr=1
  ·have h:=xo (vr:=vr) (p:=p) (s:=s) (t:=t) (v:=v) (fol:=fol) h1 e4;simp only[wgt,if_pos h1,if_pos hz];exact h
  by_cases h2:vr=2
  ·cases v
   ·by_cases hp:p=0
    ·cases fol
     ·have h:=xg (vr:=vr) (p:=p) (s:=s) (t:=t) h1 h2 hp e4;simp only[wgt,if_neg h1,if_pos h2,if_pos hp,if_pos hz,Bool.false_eq_true,if_false];exact h
     ·have h:=xj (vr:=vr) (p:=p) (s:=s) (t:=t) h1 h2 hp e4;simp only[wgt,if_neg h1,if_pos h2,if_pos hp,if_pos hz,Bool.false_eq_true,if_false,if_true];exact h
    ·have h:=xl (vr:=vr) (p:=p) (s:=s) (t:=t) (fol:=fol) h1 h2 hp e4;simp only[wgt,if_neg h1,if_pos h2,if_neg hp,if_pos hz,Bool.false_eq_true,if_false];exact h
   ·have h:=xn (vr:=vr) (p:=p) (s:=s) (t:=t) (fol:=fol) h1 h2 e4;simp only[wgt,if_neg h1,if_pos h2,if_true];exact h
  ·cases v
   ·by_cases hp:p=0
    ·cases fol
     ·have h:=xf (vr:=vr) (p:=p) (s:=s) (t:=t) h1 h2 hp e4;simp only[wgt,if_neg h1,if_neg h2,if_pos hp,if_pos hz,Bool.false_eq_true,if_false];exact h
     ·have h:=xh (vr:=vr) (p:=p) (s:=s) (t:=t) h1 h2 hp e4;simp only[wgt,if_neg h1,if_neg h2,if_pos hp,if_pos hz,Bool.false_eq_true,if_false,if_true];exact h
    ·have h:=xk (vr:=vr) (p:=p) (s:=s) (t:=t) (fol:=fol) h1 h2 hp e4;simp only[wgt,if_neg h1,if_neg h2,if_neg hp,if_pos hz,Bool.false_eq_true,if_false];exact h
   ·have h:=xm (vr:=vr) (p:=p) (s:=s) (t:=t) (fol:=fol) h1 h2 e4;simp only[wgt,if_neg h1,if_neg h2,if_true];exact h
 ·rw[decide_eq_false hz] at e4;by_cases h1:vr=1
  ·have h:=zT (vr:=vr) (p:=p) (s:=s) (t:=t) (v:=v) (fol:=fol) h1 e4;simp only[wgt,if_pos h1,if_neg hz];exact h
  by_cases h2:vr=2
  ·cases v
   ·by_cases hp:p=0
    ·cases fol
     ·have h:=zK (vr:=vr) (p:=p) (s:=s) (t:=t) h1 h2 hp e4;simp only[wgt,if_neg h1,if_pos h2,if_pos hp,if_neg hz,Bool.false_eq_true,if_false];exact h
     ·have h:=zM (vr:=vr) (p:=p) (s:=s) (t:=t) h1 h2 hp e4;simp only[wgt,if_neg h1,if_pos h2,if_pos hp,if_neg hz,Bool.false_eq_true,if_false,if_true];exact h
    ·have h:=zP (vr:=vr) (p:=p) (s:=s) (t:=t) (fol:=fol) h1 h2 hp e4;simp only[wgt,if_neg h1,if_pos h2,if_neg hp,if_neg hz,Bool.false_eq_true,if_false];exact h
   ·have h:=zS (vr:=vr) (p:=p) (s:=s) (t:=t) (fol:=fol) h1 h2 e4;simp only[wgt,if_neg h1,if_pos h2,if_true];exact h
  ·cases v
   ·by_cases hp:p=0
    ·cases fol
     ·have h:=zJ (vr:=vr) (p:=p) (s:=s) (t:=t) h1 h2 hp e4;simp only[wgt,if_neg h1,if_neg h2,if_pos hp,if_neg hz,Bool.false_eq_true,if_false];exact h
     ·have h:=zL (vr:=vr) (p:=p) (s:=s) (t:=t) h1 h2 hp e4;simp only[wgt,if_neg h1,if_neg h2,if_pos hp,if_neg hz,Bool.false_eq_true,if_false,if_true];exact h
    ·have h:=zO (vr:=vr) (p:=p) (s:=s) (t:=t) (fol:=fol) h1 h2 hp e4;simp only[wgt,if_neg h1,if_neg h2,if_neg hp,if_neg hz,Bool.false_eq_true,if_false];exact h
   ·have h:=zQ (vr:=vr) (p:=p) (s:=s) (t:=t) (fol:=fol) h1 h2 e4;simp only[wgt,if_neg h1,if_neg h2,if_true];exact h
end
section
open Go Go.Am Classical
set_option maxRecDepth 100000
set_option linter.unusedVariables false
theorem xIS.rdX {p:Prop}(h:p:=by first|exact Rd.nil|exact Rd.ownK rfl|exact Rd.same (cS _)|exact Rd.fn .nil (.cons (.same rfl) (.cons (.ptr rfl) .nil))|exact Rd.fn .nil (.cons (.frzp rfl rfl (.cons (.same rfl) .nil)) (.cons (.ptr rfl) .nil))|exact Rd.own sim rfl sim sim|fail):p:=h
open xIS
abbrev wFn (vr:Int):D:=.fn (.func 257) [] [.iptr [i64 vr],.ptr 2 0]
theorem sw {vr:Int}:Pk Tryz.prog 147 [i64 vr] 2 (λn=>.fn (.func 257) [] [.ptr n 0,.ptr (n+1) 0]) (λn=>[(n+1,.cells [boo false] true),(n,.cells [i64 vr] true)]):=by
 refine Pk.of_v aA T0 Tryz.func147 rfl rfl rfl ?_;repeat' ((conv=>whnf);first|exact kQ|(refine bk ?_ ?_<;>intro _<;>try(exfalso;omega))|refine stq ?_)
 all_goals(conv=>whnf)
 exact⟨[0,2],rfl,⟨by simp,λn=>.fn .nil (.cons (.ptr (by simp[sgn])) (.cons (.ptr (by simp[sgn])) .nil)),λn=>.cons (id:=2) (by simp[sgn]) rfl rfl (.cells (.cons (.same rfl) .nil) rfl) (.cons (id:=0) (by simp[sgn]) rfl rfl (.cells (.cons (.same rfl) .nil) rfl) .nil)⟩⟩
abbrev wOwn (a b c d:List Int):List (Nat×Box):=bJ 3 cI a++(bJ 4 cI b++(bJ 5 cI c++(bJ 6 cI d++[])))
abbrev wBox (o:Opt) (f:Bool) (a b c d:List Int):List (Nat×Box):=(0,.cells (gm o) true)::(1,.cells [bG 3 1 a,bG 4 1 b,bG 5 1 c,bG 6 1 d] true)::(2,.cells [boo f] true)::wOwn a b c d
abbrev wOut (o:Opt) (es:List Elm) (i:Nat) (f:Bool) (a b c d:List Int):St:=⟨tmp 50 [(3,.ptr 0 0),(5,.ptr 1 0),(6,wFn o.vr),(16,elms es),(17,i64 (es.length:Int)),(18,i64 (i:Int))],⟨7,wBox o f a b c d⟩⟩
abbrev wInn (o:Opt) (es:List Elm) (i:Nat) (w0 w1 w2 w3:Int) (j:Nat) (f:Bool) (a b c d:List Int):St:=⟨tmp 50 [(3,.ptr 0 0),(5,.ptr 1 0),(6,wFn o.vr),(16,elms es),(17,i64 (es.length:Int)),(18,i64 (i:Int)),(24,.agg [i64 w0,i64 w1,i64 w2,i64 w3]),(25,i64 (j:Int))],⟨7,wBox o f a b c d⟩⟩
def wOutI (vr:Int) (es:List Elm) (i:Nat) (f:Bool) (a b c d:List Int):Prop:=i<=es.length∧f=qJ vr false (es.take i)∧a=gY 0 (fA vr false (es.take i))∧b=gY 1 (fA vr false (es.take i))∧c=gY 2 (fA vr false (es.take i))∧d=gY 3 (fA vr false (es.take i))
def wInnI (ws:List (List Int)) (w:List Int) (f0:Bool) (j:Nat) (f:Bool) (a b c d:List Int):Prop:=j<=4∧f=f0∧a=lvL ws w j 0∧b=lvL ws w j 1∧c=lvL ws w j 2∧d=lvL ws w j 3
theorem wgt4 {vr:Int}{f:Bool}{e:Elm}:∃ w0 w1 w2 w3,(wgt vr f e).1=[w0,w1,w2,w3]:=by
 have h:=Bx (vr:=vr) (f:=f) (e:=e)
 match hw:(wgt vr f e).1,h with
 | [w0,w1,w2,w3],_=>exact⟨w0,w1,w2,w3,rfl⟩
theorem nbI:∀ x,aJ (cI x)=true:=λ_=>rfl
theorem SmH.lit {k:Nat}{y:Int}{ys:List Int}{r:List (Nat×Box)}:SmH (bJ k cI (y::ys)++r) ((k,.cells ((y::ys).flatMap cI) false)::r):=λ_=>rfl
theorem g8 {k j:Nat}(h:¬k=j):∀ {r:List (Nat×Box)},aV (delL r k) j=aV r j
 | []=>rfl
 | (i,b)::r=>by
  show aV (if i=k then delL r k else(i,b)::delL r k) j=(if i=j then some b else aV r j);by_cases e:i=k
  ·subst e;rw[if_pos rfl,if_neg h,g8 h]
  ·rw[if_neg e];show(if i=j then some b else aV (delL r k) j)=_;rw[g8 h]
theorem cx {p:Prop}{l:List Int}(hne:l≠[]) (h:p:=by first|exact b9 asm|exact(a8 (by decide)).trans (b9 asm)|exact(a8 (by decide)).trans ((a8 (by decide)).trans (b9 asm))|exact(a8 (by decide)).trans ((a8 (by decide)).trans ((a8 (by decide)).trans (b9 asm)))|exact(g8 (by decide)).trans (b9 asm)|exact(g8 (by decide)).trans ((a8 (by decide)).trans (b9 asm))|exact(g8 (by decide)).trans ((a8 (by decide)).trans ((a8 (by decide)).trans (b9 asm)))|exact(g8 (by decide)).trans ((a8 (by decide)).trans ((a8 (by decide)).trans ((a8 (by decide)).trans (b9 asm))))|fail):p:=h
theorem tH:Pu Tryz.prog 60 [aT] (.tup []):=by
 have h0:([]:List Int).length=0:=rfl;refine pv Tryz.func60 ?_;repeat' ((conv=>whnf);first|exact kQ|(refine bk ?_ ?_<;>intro _<;>try(exfalso;omega))|refine stq ?_|refine aH.times aA T0 1 ?_|fail)
 all_goals(conv=>whnf)
 all_goals exact⟨.tup .nil⟩
theorem Rd.revF {h:aB}{fz:Nat->Bool}{σ:Nat->Option Nat}{id:Nat}{l:List Int}{n:Nat}(hn:n=l.length) (hf:fz id=true) (hg:h.get id=some (.cells (l.reverse.map aa) false)):Rd h fz σ (.sl id 0 n n 1 false) (aE l.reverse):=by
 subst hn;have:=Rd.frz (σ:=σ) (off:=0) (n:=l.length) (cap:=l.length) (es:=1) (ex:=false) (cs':=l.reverse.map i64) hf hg si (.eqs (by rw[List.drop_zero,Nat.mul_one,kE si]) (aN (λ_=>rfl) _))
 have e:l.reverse.length=l.length:=by simp
 show Rd h fz σ (.sl id 0 l.length l.length 1 false) (.imm l.reverse.length (l.reverse.map i64));rw[e];exact this
set_option maxHeartbeats 4000000 in
theorem qT {o:Opt}{es:List Elm}(hl:es.length<=100000):Pu Tryz.prog 69 [elms es,ob o] (xB (dX o es)):=by
 have hg:=ed o;have he:=nR (o:=o);have ht:=sw (vr:=(fv o).vr);unfold dX oD;generalize fv o=E at *;obtain⟨st,vr,bw,id⟩:=E;generalize hR:List.take _ _=R;refine Pu.of_v aA T0 Tryz.func69 rfl rfl (aQ (cS _) (aQ rfl rfl)) ?_;repeat' ((conv=>whnf);first|exact kQ|(refine bk ?_ ?_<;>intro _<;>try(exfalso;omega))|refine stq ?_|refine cp he ?_|refine Cll.pk ht ?_|fail)
 all_goals(conv=>whnf)
 refine aH.by6 aA T0 (wOut ⟨st,vr,bw,id⟩ es) (wOutI vr es) es.length false [] [] [] [] ⟨by omega,rfl,rfl,rfl,rfl,rfl⟩ ?_ ?_
 ·exact lq [(0,0),(1,5),(2,10)] [9]
 intro i f a b c d hI;obtain⟨hi0,hf0,ha0,hb0,hc0,hd0⟩:=hI;by_cases hi:i<es.length
 ·obtain⟨w0,w1,w2,w3,hw⟩:=wgt4 (vr:=vr) (f:=f) (e:=es[i]);have hb:=Bz (vr:=vr) (fol:=f) (e:=es[i])
  have hwA:fA vr false (es.take (i+1))=fA vr false (es.take i)++[[w0,w1,w2,w3]]:=by
   rw[List.take_succ_eq_append_getElem hi,sq,<-hf0];simp only[fA,hw]
  have hfA:qJ vr false (es.take (i+1))=(wgt vr f es[i]).2:=by
   rw[List.take_succ_eq_append_getElem hi,uC,<-hf0];simp only[qJ]
  rw[hw] at hb;generalize(wgt vr f es[i]).2=f' at *;have hwl:(fA vr false (es.take i)).length=i:=by rw[jB];simp;omega
  refine Lf.same ?_;repeat' ((conv=>whnf);first|refine Cll.embS hb [(0,2)] (gX [w0,w1,w2,w3]) [(2,.cells [boo f'] true)] ((0,.cells (gm ⟨st,vr,bw,id⟩) true)::(1,.cells [bG 3 1 a,bG 4 1 b,bG 5 1 c,bG 6 1 d] true)::wOwn a b c d) (eh.skip (eh.cons rfl (eh.cons rfl (eh.skip (eh.own rfl (eh.own rfl (eh.own rfl (eh.own rfl .nil)))))))) rfl aq bxA rdA bxA ?_|exact kQ|(refine bk ?_ ?_<;>intro _<;>try(exfalso;omega))|refine stq ?_|refine cG ?_|fail)
  all_goals(conv=>whnf)
  refine aH.by6 aA T0 (wInn ⟨st,vr,bw,id⟩ es i w0 w1 w2 w3) (wInnI (fA vr false (es.take i)) [w0,w1,w2,w3] f') 4 f' a b c d ⟨by omega,rfl,by rw[wr];exact ha0,by rw[wr];exact hb0,by rw[wr];exact hc0,by rw[wr];exact hd0⟩ ?_ ?_
  ·refine Lf.of2 [(0,0),(1,1),(2,2),(3,3),(4,4),(5,5),(6,6)] [] enA (.cons rfl rfl rfl rbA (.cons rfl rfl rfl (.cells (.cons (Rd.ownK rfl) (.cons (Rd.ownK rfl) (.cons (Rd.ownK rfl) (.cons (Rd.ownK rfl) .nil)))) rfl) (.cons rfl rfl rfl rbA (Bxs.ownK rfl rfl ?_ nbI (Bxs.ownK rfl rfl ?_ nbI (Bxs.ownK rfl rfl ?_ nbI (Bxs.ownK rfl rfl ?_ nbI .nil))))))) rfl rfl;all_goals(intro hne;first|exact⟨_,cx hne,rfl⟩|exact⟨_,rfl,rfl⟩|exact⟨_,rfl,ai (c:=cI) (sz:=1) (λ_=>rfl) _ _⟩)
  clear hb ha0 hb0 hc0 hd0 hf0;intro j f1 a b c d hJ;obtain⟨hj,hf,ha,hb,hc,hd⟩:=hJ;have hla:a.length<=100001:=by rw[ha];have:=nk (ws:=fA vr false (es.take i)) (w:=[w0,w1,w2,w3]) (j:=j) (k:=0);omega
  have hlb:b.length<=100001:=by rw[hb];have:=nk (ws:=fA vr false (es.take i)) (w:=[w0,w1,w2,w3]) (j:=j) (k:=1);omega
  have hlc:c.length<=100001:=by rw[hc];have:=nk (ws:=fA vr false (es.take i)) (w:=[w0,w1,w2,w3]) (j:=j) (k:=2);omega
  have hld:d.length<=100001:=by rw[hd];have:=nk (ws:=fA vr false (es.take i)) (w:=[w0,w1,w2,w3]) (j:=j) (k:=3);omega
  clear hwl;rcases(show j=0∨j=1∨j=2∨j=3∨j=4 by omega) with rfl|rfl|rfl|rfl|rfl
  ·by_cases hz:w0=0
   ·refine Lf.same ?_;repeat' ((conv=>whnf);first|exact kQ|(refine bk ?_ ?_<;>intro _<;>try(exfalso;omega))|refine stq ?_|refine cG ?_|refine az.lit ?_|refine Chk.growX 8 1 rfl rfl om om si ?_|fail)
    all_goals(conv=>whnf)
    refine⟨1,f1,a,b,c,d,⟨by omega,hf,by rw[lm (w:=[w0,w1,w2,w3]) (j:=0) hz];exact ha,hb.trans (aY (j:=0) om).symm,hc.trans (aY (j:=0) om).symm,hd.trans (aY (j:=0) om).symm⟩,by omega,?_⟩;refine Lf.of2 [(0,0),(1,1),(2,2),(3,3),(4,4),(5,5),(6,6)] [] enA (.cons rfl rfl rfl rbA (.cons rfl rfl rfl (.cells (.cons (Rd.ownK rfl) (.cons (Rd.ownK rfl) (.cons (Rd.ownK rfl) (.cons (Rd.ownK rfl) .nil)))) rfl) (.cons rfl rfl rfl rbA (Bxs.ownK rfl rfl ?_ nbI (Bxs.ownK rfl rfl ?_ nbI (Bxs.ownK rfl rfl ?_ nbI (Bxs.ownK rfl rfl ?_ nbI .nil))))))) rfl rfl;all_goals(intro hne;first|exact⟨_,cx hne,rfl⟩|exact⟨_,rfl,rfl⟩|exact⟨_,rfl,ai (c:=cI) (sz:=1) (λ_=>rfl) _ _⟩)
   ·cases a with
    | nil=>
     refine Lf.same ?_;repeat' ((conv=>whnf);first|exact kQ|(refine bk ?_ ?_<;>intro _<;>try(exfalso;omega))|refine stq ?_|refine cG ?_|refine az.lit ?_|refine Chk.growX 8 1 rfl rfl om om si ?_|fail)
     all_goals(conv=>whnf)
     refine⟨1,f1,[w0],b,c,d,⟨by omega,hf,by rw[gK (w:=[w0,w1,w2,w3]) (j:=0) hz,<-ha];rfl,hb.trans (aY (j:=0) om).symm,hc.trans (aY (j:=0) om).symm,hd.trans (aY (j:=0) om).symm⟩,by omega,?_⟩;refine Lf.of2 [(0,0),(1,1),(2,2),(3,20),(4,4),(5,5),(6,6)] [] enA (.cons rfl rfl rfl rbA (.cons rfl rfl rfl (.cells (.cons (Rd.own si rfl si si) (.cons (Rd.ownK rfl) (.cons (Rd.ownK rfl) (.cons (Rd.ownK rfl) .nil)))) rfl) (.cons rfl rfl rfl rbA (Bxs.ownK rfl rfl ?_ nbI (Bxs.ownK rfl rfl ?_ nbI (Bxs.ownK rfl rfl ?_ nbI (Bxs.ownK rfl rfl ?_ nbI .nil))))))) rfl rfl;all_goals(intro hne;first|exact⟨_,cx hne,rfl⟩|exact⟨_,rfl,rfl⟩|exact⟨_,rfl,ai (c:=cI) (sz:=1) (λ_=>rfl) _ _⟩)
    | cons y ys=>
     refine⟨⟨tmp 50 [(3,.ptr 0 0),(5,.ptr 1 0),(6,wFn vr),(16,elms es),(17,i64 (es.length:Int)),(18,i64 (i:Int)),(24,.agg [i64 w0,i64 w1,i64 w2,i64 w3]),(25,i64 ((0:Nat):Int))],⟨7,(0,.cells (gm ⟨st,vr,bw,id⟩) true)::(1,.cells [bG 3 1 (y::ys),bG 4 1 b,bG 5 1 c,bG 6 1 d] true)::(2,.cells [boo f1] true)::((3,.cells ((y::ys).flatMap cI) false)::(bJ 4 cI b++(bJ 5 cI c++(bJ 6 cI d++[]))))⟩⟩,Lf.perm (SmH.cons (SmH.cons (SmH.cons (SmH.lit)))),?_⟩;have hy:(y::ys).length=ys.length+1:=rfl;repeat' ((conv=>whnf);first|exact kQ|(refine bk ?_ ?_<;>intro _<;>try(exfalso;omega))|refine stq ?_|refine cG ?_|refine az.lit ?_|refine Chk.growX 8 1 rfl rfl om om si ?_|fail)
     all_goals(conv=>whnf)
     refine⟨1,f1,(y::ys)++[w0],b,c,d,⟨by omega,hf,by rw[gK (w:=[w0,w1,w2,w3]) (j:=0) hz,<-ha];rfl,hb.trans (aY (j:=0) om).symm,hc.trans (aY (j:=0) om).symm,hd.trans (aY (j:=0) om).symm⟩,by omega,?_⟩;refine Lf.of2 [(0,0),(1,1),(2,2),(3,20),(4,4),(5,5),(6,6)] [] enA (.cons rfl rfl rfl rbA (.cons rfl rfl rfl (.cells (.cons (Rd.own si rfl si si) (.cons (Rd.ownK rfl) (.cons (Rd.ownK rfl) (.cons (Rd.ownK rfl) .nil)))) rfl) (.cons rfl rfl rfl rbA (Bxs.ownK rfl rfl ?_ nbI (Bxs.ownK rfl rfl ?_ nbI (Bxs.ownK rfl rfl ?_ nbI (Bxs.ownK rfl rfl ?_ nbI .nil))))))) rfl rfl;all_goals(intro hne;first|exact⟨_,cx hne,rfl⟩|exact⟨_,rfl,rfl⟩|exact⟨_,rfl,ai (c:=cI) (sz:=1) (λ_=>rfl) _ _⟩)
  ·by_cases hz:w1=0
   ·refine Lf.same ?_;repeat' ((conv=>whnf);first|exact kQ|(refine bk ?_ ?_<;>intro _<;>try(exfalso;omega))|refine stq ?_|refine cG ?_|refine az.lit ?_|refine Chk.growX 8 1 rfl rfl om om si ?_|fail)
    all_goals(conv=>whnf)
    refine⟨2,f1,a,b,c,d,⟨by omega,hf,ha.trans (aY (j:=1) om).symm,by rw[lm (w:=[w0,w1,w2,w3]) (j:=1) hz];exact hb,hc.trans (aY (j:=1) om).symm,hd.trans (aY (j:=1) om).symm⟩,by omega,?_⟩;refine Lf.of2 [(0,0),(1,1),(2,2),(3,3),(4,4),(5,5),(6,6)] [] enA (.cons rfl rfl rfl rbA (.cons rfl rfl rfl (.cells (.cons (Rd.ownK rfl) (.cons (Rd.ownK rfl) (.cons (Rd.ownK rfl) (.cons (Rd.ownK rfl) .nil)))) rfl) (.cons rfl rfl rfl rbA (Bxs.ownK rfl rfl ?_ nbI (Bxs.ownK rfl rfl ?_ nbI (Bxs.ownK rfl rfl ?_ nbI (Bxs.ownK rfl rfl ?_ nbI .nil))))))) rfl rfl;all_goals(intro hne;first|exact⟨_,cx hne,rfl⟩|exact⟨_,rfl,rfl⟩|exact⟨_,rfl,ai (c:=cI) (sz:=1) (λ_=>rfl) _ _⟩)
   ·cases b with
    | nil=>
     refine Lf.same ?_;repeat' ((conv=>whnf);first|exact kQ|(refine bk ?_ ?_<;>intro _<;>try(exfalso;omega))|refine stq ?_|refine cG ?_|refine az.lit ?_|refine Chk.growX 8 1 rfl rfl om om si ?_|fail)
     all_goals(conv=>whnf)
     refine⟨2,f1,a,[w1],c,d,⟨by omega,hf,ha.trans (aY (j:=1) om).symm,by rw[gK (w:=[w0,w1,w2,w3]) (j:=1) hz,<-hb];rfl,hc.trans (aY (j:=1) om).symm,hd.trans (aY (j:=1) om).symm⟩,by omega,?_⟩;refine Lf.of2 [(0,0),(1,1),(2,2),(3,3),(4,20),(5,5),(6,6)] [] enA (.cons rfl rfl rfl rbA (.cons rfl rfl rfl (.cells (.cons (Rd.ownK rfl) (.cons (Rd.own si rfl si si) (.cons (Rd.ownK rfl) (.cons (Rd.ownK rfl) .nil)))) rfl) (.cons rfl rfl rfl rbA (Bxs.ownK rfl rfl ?_ nbI (Bxs.ownK rfl rfl ?_ nbI (Bxs.ownK rfl rfl ?_ nbI (Bxs.ownK rfl rfl ?_ nbI .nil))))))) rfl rfl;all_goals(intro hne;first|exact⟨_,cx hne,rfl⟩|exact⟨_,rfl,rfl⟩|exact⟨_,rfl,ai (c:=cI) (sz:=1) (λ_=>rfl) _ _⟩)
    | cons y ys=>
     refine⟨⟨tmp 50 [(3,.ptr 0 0),(5,.ptr 1 0),(6,wFn vr),(16,elms es),(17,i64 (es.length:Int)),(18,i64 (i:Int)),(24,.agg [i64 w0,i64 w1,i64 w2,i64 w3]),(25,i64 ((1:Nat):Int))],⟨7,(0,.cells (gm ⟨st,vr,bw,id⟩) true)::(1,.cells [bG 3 1 a,bG 4 1 (y::ys),bG 5 1 c,bG 6 1 d] true)::(2,.cells [boo f1] true)::((4,.cells ((y::ys).flatMap cI) false)::(bJ 3 cI a++(bJ 5 cI c++(bJ 6 cI d++[]))))⟩⟩,Lf.perm (SmH.cons (SmH.cons (SmH.cons ((SmH.swap (by decide)).trans SmH.lit)))),?_⟩;have hy:(y::ys).length=ys.length+1:=rfl;repeat' ((conv=>whnf);first|exact kQ|(refine bk ?_ ?_<;>intro _<;>try(exfalso;omega))|refine stq ?_|refine cG ?_|refine az.lit ?_|refine Chk.growX 8 1 rfl rfl om om si ?_|fail)
     all_goals(conv=>whnf)
     refine⟨2,f1,a,(y::ys)++[w1],c,d,⟨by omega,hf,ha.trans (aY (j:=1) om).symm,by rw[gK (w:=[w0,w1,w2,w3]) (j:=1) hz,<-hb];rfl,hc.trans (aY (j:=1) om).symm,hd.trans (aY (j:=1) om).symm⟩,by omega,?_⟩;refine Lf.of2 [(0,0),(1,1),(2,2),(3,3),(4,20),(5,5),(6,6)] [] enA (.cons rfl rfl rfl rbA (.cons rfl rfl rfl (.cells (.cons (Rd.ownK rfl) (.cons (Rd.own si rfl si si) (.cons (Rd.ownK rfl) (.cons (Rd.ownK rfl) .nil)))) rfl) (.cons rfl rfl rfl rbA (Bxs.ownK rfl rfl ?_ nbI (Bxs.ownK rfl rfl ?_ nbI (Bxs.ownK rfl rfl ?_ nbI (Bxs.ownK rfl rfl ?_ nbI .nil))))))) rfl rfl;all_goals(intro hne;first|exact⟨_,cx hne,rfl⟩|exact⟨_,rfl,rfl⟩|exact⟨_,rfl,ai (c:=cI) (sz:=1) (λ_=>rfl) _ _⟩)
  ·by_cases hz:w2=0
   ·refine Lf.same ?_;repeat' ((conv=>whnf);first|exact kQ|(refine bk ?_ ?_<;>intro _<;>try(exfalso;omega))|refine stq ?_|refine cG ?_|refine az.lit ?_|refine Chk.growX 8 1 rfl rfl om om si ?_|fail)
    all_goals(conv=>whnf)
    refine⟨3,f1,a,b,c,d,⟨by omega,hf,ha.trans (aY (j:=2) om).symm,hb.trans (aY (j:=2) om).symm,by rw[lm (w:=[w0,w1,w2,w3]) (j:=2) hz];exact hc,hd.trans (aY (j:=2) om).symm⟩,by omega,?_⟩;refine Lf.of2 [(0,0),(1,1),(2,2),(3,3),(4,4),(5,5),(6,6)] [] enA (.cons rfl rfl rfl rbA (.cons rfl rfl rfl (.cells (.cons (Rd.ownK rfl) (.cons (Rd.ownK rfl) (.cons (Rd.ownK rfl) (.cons (Rd.ownK rfl) .nil)))) rfl) (.cons rfl rfl rfl rbA (Bxs.ownK rfl rfl ?_ nbI (Bxs.ownK rfl rfl ?_ nbI (Bxs.ownK rfl rfl ?_ nbI (Bxs.ownK rfl rfl ?_ nbI .nil))))))) rfl rfl;all_goals(intro hne;first|exact⟨_,cx hne,rfl⟩|exact⟨_,rfl,rfl⟩|exact⟨_,rfl,ai (c:=cI) (sz:=1) (λ_=>rfl) _ _⟩)
   ·cases c with
    | nil=>
     refine Lf.same ?_;repeat' ((conv=>whnf);first|exact kQ|(refine bk ?_ ?_<;>intro _<;>try(exfalso;omega))|refine stq ?_|refine cG ?_|refine az.lit ?_|refine Chk.growX 8 1 rfl rfl om om si ?_|fail)
     all_goals(conv=>whnf)
     refine⟨3,f1,a,b,[w2],d,⟨by omega,hf,ha.trans (aY (j:=2) om).symm,hb.trans (aY (j:=2) om).symm,by rw[gK (w:=[w0,w1,w2,w3]) (j:=2) hz,<-hc];rfl,hd.trans (aY (j:=2) om).symm⟩,by omega,?_⟩;refine Lf.of2 [(0,0),(1,1),(2,2),(3,3),(4,4),(5,20),(6,6)] [] enA (.cons rfl rfl rfl rbA (.cons rfl rfl rfl (.cells (.cons (Rd.ownK rfl) (.cons (Rd.ownK rfl) (.cons (Rd.own si rfl si si) (.cons (Rd.ownK rfl) .nil)))) rfl) (.cons rfl rfl rfl rbA (Bxs.ownK rfl rfl ?_ nbI (Bxs.ownK rfl rfl ?_ nbI (Bxs.ownK rfl rfl ?_ nbI (Bxs.ownK rfl rfl ?_ nbI .nil))))))) rfl rfl;all_goals(intro hne;first|exact⟨_,cx hne,rfl⟩|exact⟨_,rfl,rfl⟩|exact⟨_,rfl,ai (c:=cI) (sz:=1) (λ_=>rfl) _ _⟩)
    | cons y ys=>
     refine⟨⟨tmp 50 [(3,.ptr 0 0),(5,.ptr 1 0),(6,wFn vr),(16,elms es),(17,i64 (es.length:Int)),(18,i64 (i:Int)),(24,.agg [i64 w0,i64 w1,i64 w2,i64 w3]),(25,i64 ((2:Nat):Int))],⟨7,(0,.cells (gm ⟨st,vr,bw,id⟩) true)::(1,.cells [bG 3 1 a,bG 4 1 b,bG 5 1 (y::ys),bG 6 1 d] true)::(2,.cells [boo f1] true)::((5,.cells ((y::ys).flatMap cI) false)::(bJ 3 cI a++(bJ 4 cI b++(bJ 6 cI d++[]))))⟩⟩,Lf.perm (SmH.cons (SmH.cons (SmH.cons (((SmH.own (.swap (by decide))).trans (.swap (by decide))).trans SmH.lit)))),?_⟩;have hy:(y::ys).length=ys.length+1:=rfl;repeat' ((conv=>whnf);first|exact kQ|(refine bk ?_ ?_<;>intro _<;>try(exfalso;omega))|refine stq ?_|refine cG ?_|refine az.lit ?_|refine Chk.growX 8 1 rfl rfl om om si ?_|fail)
     all_goals(conv=>whnf)
     refine⟨3,f1,a,b,(y::ys)++[w2],d,⟨by omega,hf,ha.trans (aY (j:=2) om).symm,hb.trans (aY (j:=2) om).symm,by rw[gK (w:=[w0,w1,w2,w3]) (j:=2) hz,<-hc];rfl,hd.trans (aY (j:=2) om).symm⟩,by omega,?_⟩;refine Lf.of2 [(0,0),(1,1),(2,2),(3,3),(4,4),(5,20),(6,6)] [] enA (.cons rfl rfl rfl rbA (.cons rfl rfl rfl (.cells (.cons (Rd.ownK rfl) (.cons (Rd.ownK rfl) (.cons (Rd.own si rfl si si) (.cons (Rd.ownK rfl) .nil)))) rfl) (.cons rfl rfl rfl rbA (Bxs.ownK rfl rfl ?_ nbI (Bxs.ownK rfl rfl ?_ nbI (Bxs.ownK rfl rfl ?_ nbI (Bxs.ownK rfl rfl ?_ nbI .nil))))))) rfl rfl;all_goals(intro hne;first|exact⟨_,cx hne,rfl⟩|exact⟨_,rfl,rfl⟩|exact⟨_,rfl,ai (c:=cI) (sz:=1) (λ_=>rfl) _ _⟩)
  ·by_cases hz:w3=0
   ·refine Lf.same ?_;repeat' ((conv=>whnf);first|exact kQ|(refine bk ?_ ?_<;>intro _<;>try(exfalso;omega))|refine stq ?_|refine cG ?_|refine az.lit ?_|refine Chk.growX 8 1 rfl rfl om om si ?_|fail)
    all_goals(conv=>whnf)
    refine⟨4,f1,a,b,c,d,⟨by omega,hf,ha.trans (aY (j:=3) om).symm,hb.trans (aY (j:=3) om).symm,hc.trans (aY (j:=3) om).symm,by rw[lm (w:=[w0,w1,w2,w3]) (j:=3) hz];exact hd⟩,by omega,?_⟩;refine Lf.of2 [(0,0),(1,1),(2,2),(3,3),(4,4),(5,5),(6,6)] [] enA (.cons rfl rfl rfl rbA (.cons rfl rfl rfl (.cells (.cons (Rd.ownK rfl) (.cons (Rd.ownK rfl) (.cons (Rd.ownK rfl) (.cons (Rd.ownK rfl) .nil)))) rfl) (.cons rfl rfl rfl rbA (Bxs.ownK rfl rfl ?_ nbI (Bxs.ownK rfl rfl ?_ nbI (Bxs.ownK rfl rfl ?_ nbI (Bxs.ownK rfl rfl ?_ nbI .nil))))))) rfl rfl;all_goals(intro hne;first|exact⟨_,cx hne,rfl⟩|exact⟨_,rfl,rfl⟩|exact⟨_,rfl,ai (c:=cI) (sz:=1) (λ_=>rfl) _ _⟩)
   ·cases d with
    | nil=>
     refine Lf.same ?_;repeat' ((conv=>whnf);first|exact kQ|(refine bk ?_ ?_<;>intro _<;>try(exfalso;omega))|refine stq ?_|refine cG ?_|refine az.lit ?_|refine Chk.growX 8 1 rfl rfl om om si ?_|fail)
     all_goals(conv=>whnf)
     refine⟨4,f1,a,b,c,[w3],⟨by omega,hf,ha.trans (aY (j:=3) om).symm,hb.trans (aY (j:=3) om).symm,hc.trans (aY (j:=3) om).symm,by rw[gK (w:=[w0,w1,w2,w3]) (j:=3) hz,<-hd];rfl⟩,by omega,?_⟩;refine Lf.of2 [(0,0),(1,1),(2,2),(3,3),(4,4),(5,5),(6,20)] [] enA (.cons rfl rfl rfl rbA (.cons rfl rfl rfl (.cells (.cons (Rd.ownK rfl) (.cons (Rd.ownK rfl) (.cons (Rd.ownK rfl) (.cons (Rd.own si rfl si si) .nil)))) rfl) (.cons rfl rfl rfl rbA (Bxs.ownK rfl rfl ?_ nbI (Bxs.ownK rfl rfl ?_ nbI (Bxs.ownK rfl rfl ?_ nbI (Bxs.ownK rfl rfl ?_ nbI .nil))))))) rfl rfl;all_goals(intro hne;first|exact⟨_,cx hne,rfl⟩|exact⟨_,rfl,rfl⟩|exact⟨_,rfl,ai (c:=cI) (sz:=1) (λ_=>rfl) _ _⟩)
    | cons y ys=>
     refine⟨⟨tmp 50 [(3,.ptr 0 0),(5,.ptr 1 0),(6,wFn vr),(16,elms es),(17,i64 (es.length:Int)),(18,i64 (i:Int)),(24,.agg [i64 w0,i64 w1,i64 w2,i64 w3]),(25,i64 ((3:Nat):Int))],⟨7,(0,.cells (gm ⟨st,vr,bw,id⟩) true)::(1,.cells [bG 3 1 a,bG 4 1 b,bG 5 1 c,bG 6 1 (y::ys)] true)::(2,.cells [boo f1] true)::((6,.cells ((y::ys).flatMap cI) false)::(bJ 3 cI a++(bJ 4 cI b++(bJ 5 cI c++[]))))⟩⟩,Lf.perm (SmH.cons (SmH.cons (SmH.cons ((((SmH.own (SmH.own (.swap (by decide)))).trans (SmH.own (.swap (by decide)))).trans (.swap (by decide))).trans SmH.lit)))),?_⟩;have hy:(y::ys).length=ys.length+1:=rfl;repeat' ((conv=>whnf);first|exact kQ|(refine bk ?_ ?_<;>intro _<;>try(exfalso;omega))|refine stq ?_|refine cG ?_|refine az.lit ?_|refine Chk.growX 8 1 rfl rfl om om si ?_|fail)
     all_goals(conv=>whnf)
     refine⟨4,f1,a,b,c,(y::ys)++[w3],⟨by omega,hf,ha.trans (aY (j:=3) om).symm,hb.trans (aY (j:=3) om).symm,hc.trans (aY (j:=3) om).symm,by rw[gK (w:=[w0,w1,w2,w3]) (j:=3) hz,<-hd];rfl⟩,by omega,?_⟩;refine Lf.of2 [(0,0),(1,1),(2,2),(3,3),(4,4),(5,5),(6,20)] [] enA (.cons rfl rfl rfl rbA (.cons rfl rfl rfl (.cells (.cons (Rd.ownK rfl) (.cons (Rd.ownK rfl) (.cons (Rd.ownK rfl) (.cons (Rd.own si rfl si si) .nil)))) rfl) (.cons rfl rfl rfl rbA (Bxs.ownK rfl rfl ?_ nbI (Bxs.ownK rfl rfl ?_ nbI (Bxs.ownK rfl rfl ?_ nbI (Bxs.ownK rfl rfl ?_ nbI .nil))))))) rfl rfl;all_goals(intro hne;first|exact⟨_,cx hne,rfl⟩|exact⟨_,rfl,rfl⟩|exact⟨_,rfl,ai (c:=cI) (sz:=1) (λ_=>rfl) _ _⟩)
  ·refine Lf.same ?_;repeat' ((conv=>whnf);first|exact kQ|(refine bk ?_ ?_<;>intro _<;>try(exfalso;omega))|refine stq ?_|refine cG ?_|refine az.lit ?_|refine Chk.growX 8 1 rfl rfl om om si ?_|fail)
   all_goals(conv=>whnf)
   refine⟨i+1,f1,a,b,c,d,⟨by omega,by rw[hfA];exact hf,by rw[ha,wq om,hwA],by rw[hb,wq om,hwA],by rw[hc,wq om,hwA],by rw[hd,wq om,hwA]⟩,by omega,?_⟩;refine Lf.of2 [(0,0),(1,1),(2,2),(3,3),(4,4),(5,5),(6,6)] [] enA (.cons rfl rfl rfl rbA (.cons rfl rfl rfl (.cells (.cons (Rd.ownK rfl) (.cons (Rd.ownK rfl) (.cons (Rd.ownK rfl) (.cons (Rd.ownK rfl) .nil)))) rfl) (.cons rfl rfl rfl rbA (Bxs.ownK rfl rfl ?_ nbI (Bxs.ownK rfl rfl ?_ nbI (Bxs.ownK rfl rfl ?_ nbI (Bxs.ownK rfl rfl ?_ nbI .nil))))))) rfl rfl;all_goals(intro hne;first|exact⟨_,cx hne,rfl⟩|exact⟨_,rfl,rfl⟩|exact⟨_,rfl,ai (c:=cI) (sz:=1) (λ_=>rfl) _ _⟩)
 ·have e1:es.take i=es:=kE om;rw[e1] at ha0 hb0 hc0 hd0
  have hR2:R=[a,if bw=true then b.reverse else b,c,d].take st.toNat:=by
   rw[<-hR,ha0,hb0,hc0,hd0];cases bw<;>simp
  have hst:=hg.1;simp only at hst;have hla:a.length<=100000:=by rw[ha0];exact Nat.le_trans jA (by rw[jB];exact hl)
  have hlb:b.length<=100000:=by rw[hb0];exact Nat.le_trans jA (by rw[jB];exact hl)
  clear ha0 hb0 hc0 hd0 hf0;cases bw with
  | false=>
   refine Lf.same ?_;repeat' ((conv=>whnf);first|refine ax.weak (x:=Code.seq (Code.region 16 _ false) _) aA T0 (s0:=⟨tmp 50 [(3,.ptr 0 0),(5,.ptr 1 0)],⟨2,[(0,.cells [i64 st,i64 vr,boo false,boo id] true),(1,.cells [aE a,aE b,aE c,aE d] true)]⟩⟩) ?_ ?_|refine az.lit ?_|exact kQ|(refine bk ?_ ?_<;>intro _<;>try(exfalso;omega))|refine stq ?_|refine cG ?_|fail)
   ·refine Lf.of2 [(0,0),(1,1)] [3,4,5,6] enA (.cons rfl rfl rfl rbA (.cons rfl rfl rfl (.cells (.cons (Rd.ownF rfl (λhne=>cx hne)) (.cons (Rd.ownF rfl (λhne=>cx hne)) (.cons (Rd.ownF rfl (λhne=>cx hne)) (.cons (Rd.ownF rfl (λhne=>cx hne)) .nil)))) rfl) .nil)) rfl rfl
   all_goals(rcases(show st=1∨st=2∨st=3∨st=4 by omega) with rfl|rfl|rfl|rfl)
   all_goals
    repeat' ((conv=>whnf);first|exact kQ|(refine bk ?_ ?_<;>intro _<;>try(exfalso;omega))|refine stq ?_|refine ad.own rfl si ?_|refine Chk.mk ⟨by omega,by omega,by omega,by omega,kD rfl⟩ ?_|fail)
   all_goals(conv=>whnf)
   all_goals(rw[hR2];exact⟨Rd.frz (bx:=false) rfl rfl (kD rfl) (Rds.eqs rfl (by simp[aJ,aG]))⟩)
  | true=>
   cases b with
   | nil=>
    have hr:=tH;refine Lf.same ?_;repeat' ((conv=>whnf);first|refine ax.weak (x:=Code.seq (Code.region 16 _ false) _) aA T0 (s0:=⟨tmp 50 [(3,.ptr 0 0),(5,.ptr 1 0)],⟨2,[(0,.cells [i64 st,i64 vr,boo true,boo id] true),(1,.cells [aE a,aE [],aE c,aE d] true)]⟩⟩) ?_ ?_|refine az.lit ?_|refine Cll.pu hr ?_|exact kQ|(refine bk ?_ ?_<;>intro _<;>try(exfalso;omega))|refine stq ?_|refine cG ?_|fail)
    ·refine Lf.of2 [(0,0),(1,1)] [3,4,5,6] enA (.cons rfl rfl rfl rbA (.cons rfl rfl rfl (.cells (.cons (Rd.ownF rfl (λhne=>cx hne)) (.cons (Rd.ownF rfl (λhne=>cx hne)) (.cons (Rd.ownF rfl (λhne=>cx hne)) (.cons (Rd.ownF rfl (λhne=>cx hne)) .nil)))) rfl) .nil)) rfl rfl
    all_goals(rcases(show st=1∨st=2∨st=3∨st=4 by omega) with rfl|rfl|rfl|rfl)
    all_goals
     repeat' ((conv=>whnf);first|exact kQ|(refine bk ?_ ?_<;>intro _<;>try(exfalso;omega))|refine stq ?_|refine ad.own rfl si ?_|refine Chk.mk ⟨by omega,by omega,by omega,by omega,kD rfl⟩ ?_|fail)
    all_goals(conv=>whnf)
    all_goals(rw[hR2];exact⟨Rd.frz (bx:=false) rfl rfl (kD rfl) (Rds.eqs rfl (by simp[aJ,aG]))⟩)
   | cons y ys=>
    have hr:=yE (l:=y::ys) (cp:=(y::ys).length) om;refine⟨⟨tmp 50 [(3,.ptr 0 0),(5,.ptr 1 0),(6,wFn vr),(16,elms es),(17,i64 (es.length:Int)),(18,i64 (i:Int))],⟨7,(0,.cells (gm ⟨st,vr,true,id⟩) true)::(1,.cells [bG 3 1 a,bG 4 1 (y::ys),bG 5 1 c,bG 6 1 d] true)::(2,.cells [boo f] true)::(4,.cells ((y::ys).flatMap cI) false)::(bJ 3 cI a++(bJ 5 cI c++(bJ 6 cI d++[])))⟩⟩,Lf.perm (SmH.cons (SmH.cons (SmH.cons ((SmH.swap (by decide)).trans SmH.lit)))),?_⟩;repeat' ((conv=>whnf);first|refine ax.weak (x:=Code.seq (Code.region 16 _ false) _) aA T0 (s0:=⟨tmp 50 [(3,.ptr 0 0),(5,.ptr 1 0)],⟨2,[(0,.cells [i64 st,i64 vr,boo true,boo id] true),(1,.cells [aE a,aE (y::ys).reverse,aE c,aE d] true)]⟩⟩) ?_ ?_|refine az.lit ?_|refine Cll.embS hr [(0,4)] (.tup []) [(4,.cells ((y::ys).reverse.map aa) false)] ((0,.cells (gm ⟨st,vr,true,id⟩) true)::(1,.cells [bG 3 1 a,bG 4 1 (y::ys),bG 5 1 c,bG 6 1 d] true)::(bJ 3 cI a++(bJ 5 cI c++(bJ 6 cI d++[])))) (eh.cons rfl (eh.cons rfl (eh.skip (eh.skip (eh.own rfl (eh.own rfl (eh.own rfl .nil))))))) rfl (.cons (Rd.slO rfl rfl rfl rfl) .nil) (.cons rfl rfl rfl (.cells (.eqs (aD _) (aN (λ_=>rfl) _)) rfl) .nil) rdA (.cons rfl rfl rfl (.cells (.same (aN (λ_=>rfl) _)) rfl) .nil) ?_|exact kQ|(refine bk ?_ ?_<;>intro _<;>try(exfalso;omega))|refine stq ?_|refine cG ?_|fail)
    ·refine Lf.of2 [(0,0),(1,1)] [3,4,5,6] enA (.cons rfl rfl rfl rbA (.cons rfl rfl rfl (.cells (.cons (Rd.ownF rfl (λhne=>cx hne)) (.cons (Rd.revF rfl rfl rfl) (.cons (Rd.ownF rfl (λhne=>cx hne)) (.cons (Rd.ownF rfl (λhne=>cx hne)) .nil)))) rfl) .nil)) rfl rfl
    all_goals(rcases(show st=1∨st=2∨st=3∨st=4 by omega) with rfl|rfl|rfl|rfl)
    all_goals
     repeat' ((conv=>whnf);first|exact kQ|(refine bk ?_ ?_<;>intro _<;>try(exfalso;omega))|refine stq ?_|refine ad.own rfl si ?_|refine Chk.mk ⟨by omega,by omega,by omega,by omega,kD rfl⟩ ?_|fail)
    all_goals(conv=>whnf)
    all_goals(rw[hR2];exact⟨Rd.frz (bx:=false) rfl rfl (kD rfl) (Rds.eqs rfl (by simp[aJ,aG]))⟩)
end
end Go.Proofs.YticpeeooobajgaaGreatDoor
