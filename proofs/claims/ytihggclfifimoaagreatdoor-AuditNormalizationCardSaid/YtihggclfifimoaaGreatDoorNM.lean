/-
  Contracts over data: the closure that measures full decompositions.
-/
import Derived.Test.YtihggclfifimoaaGreatDoorNK
set_option linter.unusedSectionVars false
namespace Go.Proofs.YtihggclfifimoaaGreatDoor
open Go Go.Am Classical
set_option maxRecDepth 100000
theorem xNM.rdX {p:Prop}(h:p:=by first|exact rdSz|exact Rd.same (nbN n)|exact Rd.int om|exact HI|exact Rd.eqd (by first|(simp_all;done)|fail) rfl|exact Rd.int (by first|(simp only;omega;done)|fail)|fail):p:=h
theorem xNM.rbX {p:Prop}(h:p:=by first|exact Rb.map (Res.same (nbZ _))|exact Rb.map (Res.eqs (by first|(simp[zsM];done)|fail) (nbZ _))|exact Rb.map (Res.eqs (by first|(simp only[zsM,mf,hlk,List.map_set];done)|fail) (nbZ _))|fail):p:=h
open xNM
abbrev yI (n:Nm):D:=.fn (.func 302) [] [.iptr (nmC n),.ptr 3 0,.ptr 0 0,.ptr 4 0,.ptr 1 0]
abbrev zsM (zs:List (Int×Int)):List (D×D):=zs.map λp=>(i64 p.1,i64 p.2)
abbrev szH (n:Nm) (zs:List (Int×Int)) (cy lg:Bool):List (Nat×Box):=[(0,.cells [boo cy] true),(1,.cells [boo lg] true),(2,.map (zsM zs)),(3,.cells [.map 2] true),(4,.cells [yI n] true)]
theorem nbZ (zs:List (Int×Int)):∀ p∈zsM zs,aL p.1=true∧aL p.2=true:=λp hp=>by
 obtain⟨q,_,rfl⟩:=List.mem_map.1 hp;exact⟨rfl,rfl⟩
theorem nbN (n:Nm):aL (.iptr (nmC n))=true:=ce n
theorem rdSz {h:aB}{fz:Nat->Bool}{σl:List (Nat×Nat)}{n:Nm}:Rd h fz (sgm 5 σl) (yI n) (yI n):=
 Rd.fn .nil (.cons (.same (nbN n)) (.cons (.ptr rfl) (.cons (.ptr rfl) (.cons (.ptr rfl) (.cons (.ptr rfl) .nil)))))
theorem HI {h:aB}{fz:Nat->Bool}{σ:Nat->Option Nat}{n:Nm}(h0:σ 0=some 0:=by rfl) (h1:σ 1=some 1:=by rfl) (h3:σ 3=some 3:=by rfl) (h4:σ 4=some 4:=by rfl):Rd h fz σ (yI n) (yI n):=
 Rd.fn .nil (.cons (.same (nbN n)) (.cons (.ptr h3) (.cons (.ptr h0) (.cons (.ptr h4) (.cons (.ptr h1) .nil)))))
set_option maxHeartbeats 4000000 in
theorem size_c {n:Nm}(hn:n.dc.length<=1000) (hr:i9 n.dc) (hkd:∀ m∈n.dc,hk m.frm=0) (hto:∀ c to,once n true c=some to->to.length<=1000):∀ (f:Nat) (c:Int) (zs:List (Int×Int)) (cy lg:Bool),(once n true c=none∨left n.dc zs+1<=f)->SzB zs ->
  AC1 Tryz.prog 302 [i64 c,.iptr (nmC n),.ptr 3 0,.ptr 0 0,.ptr 4 0,.ptr 1 0] ⟨5,szH n zs cy lg⟩ (i64 (szF (once n true) f c (zs,cy,lg)).1) ⟨5,szH n (szF (once n true) f c (zs,cy,lg)).2.1 (szF (once n true) f c (zs,cy,lg)).2.2.1 (szF (once n true) f c (zs,cy,lg)).2.2.2⟩:=by
 intro f
 induction f with
 | zero=>
  intro c zs cy lg h hsb
  have ho:once n true c=none:=by
   rcases h with h|h
   ·exact h
   ·omega
  have h1:=yh (n:=n) (k:=true) (c:=c) hn hr;rw[ho] at h1;refine AC1.of_vf aA T0 Tryz.func302 rfl rfl ?_;have e:szF (once n true) 0 c (zs,cy,lg)=(1,(zs,cy,lg)):=rfl;rw[e];repeat' ((conv=>whnf);first|exact kQ|(refine bk ?_ ?_<;>intro _<;>try(exfalso;omega))|refine stq ?_|refine cp h1 ?_|fail)
  all_goals(conv=>whnf)
  all_goals first
   | (refine⟨Or.inr rfl,_,rfl,?_⟩
      exact lq0)
 | succ f ih=>
  intro c zs cy lg hf hsb;have h1:=yh (n:=n) (k:=true) (c:=c) hn hr;refine AC1.of_vf aA T0 Tryz.func302 rfl rfl ?_;cases ho:once n true c with
  | none=>
   rw[ho] at h1;have e:szF (once n true) (f+1) c (zs,cy,lg)=(1,(zs,cy,lg)):=by simp only[szF,ho]
   rw[e];repeat' ((conv=>whnf);first|exact kQ|(refine bk ?_ ?_<;>intro _<;>try(exfalso;omega))|refine stq ?_|refine cp h1 ?_|fail)
   all_goals(conv=>whnf)
   all_goals first
    | (refine⟨Or.inr rfl,_,rfl,?_⟩
       exact lq0)
  | some to=>
   rw[ho] at h1;by_cases he:to=[]
   ·subst he;have e:szF (once n true) (f+1) c (zs,cy,lg)=(1,(zs,cy,lg)):=by simp only[szF,ho,if_true]
    rw[e];have hl0:([]:List Int).length=0:=rfl;repeat' ((conv=>whnf);first|exact kQ|(refine bk ?_ ?_<;>intro _<;>try(exfalso;omega))|refine stq ?_|refine cp h1 ?_|fail)
    all_goals(conv=>whnf)
    all_goals first
     | (refine⟨Or.inr rfl,_,rfl,?_⟩
        exact lq0)
   ·have hlen:to.length≠0:=λh=>he (List.eq_nil_of_length_eq_zero h)
    have hlen2:=hto c to ho;cases hz:lkZ c zs 0 with
    | some q=>
     obtain⟨i,v⟩:=q;have e:szF (once n true) (f+1) c (zs,cy,lg)=(max v 1,(zs,cy || v == -1,lg)):=by simp only[szF,ho,if_neg he,hz]
     rw[e];cases cy
     ·repeat' ((conv=>whnf);first|exact kQ|(refine bk ?_ ?_<;>intro _<;>try(exfalso;omega))|refine stq ?_|refine cp h1 ?_|(refine cB.int (λ_ _ hq=>?_) (λhq=>?_)<;>first|(rw[hz] at hq;cases hq)|skip)|fail)
      all_goals(conv=>whnf)
      all_goals first
       | (refine⟨Or.inr rfl,_,rfl,?_⟩
          exact lq0)
     ·repeat' ((conv=>whnf);first|exact kQ|(refine bk ?_ ?_<;>intro _<;>try(exfalso;omega))|refine stq ?_|refine cp h1 ?_|(refine cB.int (λ_ _ hq=>?_) (λhq=>?_)<;>first|(rw[hz] at hq;cases hq)|skip)|fail)
      all_goals(conv=>whnf)
      all_goals first
       | (refine⟨Or.inr rfl,_,rfl,?_⟩
          exact lq0)
    | none=>
     have e:szF (once n true) (f+1) c (zs,cy,lg)=((szL (szF (once n true) f) to (0,(zs++[(c,-1)],cy,lg))).1,(mf c (szL (szF (once n true) f) to (0,(zs++[(c,-1)],cy,lg))).1 (szL (szF (once n true) f) to (0,(zs++[(c,-1)],cy,lg))).2.1,(szL (szF (once n true) f) to (0,(zs++[(c,-1)],cy,lg))).2.2.1,(szL (szF (once n true) f) to (0,(zs++[(c,-1)],cy,lg))).2.2.2 || decide (64<(szL (szF (once n true) f) to (0,(zs++[(c,-1)],cy,lg))).1))):=by
      simp only[szF,ho,if_neg he,hz]
     rw[e];generalize hR:szL (szF (once n true) f) to (0,(zs++[(c,-1)],cy,lg))=R;repeat' ((conv=>whnf);first|exact kQ|(refine bk ?_ ?_<;>intro _<;>try(exfalso;omega))|refine stq ?_|refine cp h1 ?_|(refine cB.int (λ_ _ hq=>?_) (λhq=>?_)<;>first|(rw[hz] at hq;cases hq)|skip)|fail)
     refine aH.by3 aA T0 (λ(k:Nat) (r:Int×List (Int×Int)) (b:Bool×Bool)=>⟨tmp 66 [(0,i64 c),(1,.iptr (nmC n)),(2,.ptr 3 0),(3,.ptr 0 0),(4,.ptr 4 0),(5,.ptr 1 0),(12,i64 r.1),(44,aF to),(45,i64 to.length),(46,i64 (k:Int))],⟨5,szH n r.2 b.1 b.2⟩⟩)
      (λk r b=>k<=to.length∧(r.1,(r.2,b.1,b.2))=szL (szF (once n true) f) (to.take k) (0,(zs++[(c,-1)],cy,lg))) (λk _ _=>to.length-k) 0 (0,zs++[(c,-1)]) (cy,lg) ⟨by omega,rfl⟩ ?_ ?_
     ·exact lq0
     intro k ⟨sm,zs2⟩ ⟨cy2,lg2⟩ ⟨h3,h4⟩;by_cases hkl:k<to.length
     ·obtain⟨ks,hks⟩:=qI (once n true) f (to.take k) (0,(zs++[(c,-1)],cy,lg));rw[<-h4] at hks
      have hcall:once n true to[k]=none∨left n.dc zs2+1<=f:=by
       by_cases h5:4<=hk c
       ·left
        have:to=hd c:=by unfold once at ho;rw[if_pos h5] at ho;injection ho with ho;exact ho.symm
        exact dr hkd h5 (by rw[<-this];exact kM hkl)
       ·right;obtain⟨m,hm1,hm2,_⟩:=gB ho h5;have:=uR (zs:=zs) (zs2:=zs2) (ks:=ks) hm1 (by rw[hm2];exact hz) (by rw[hks,hm2];simp)
        rcases hf with hf|hf
        ·rw[ho] at hf;cases hf
        ·omega
      have hbd:=yH (once n true) f (to.take k) (0,(zs++[(c,-1)],cy,lg)) si (λp hp=>by
       rcases List.mem_append.1 hp with hp|hp
       ·exact hsb p hp
       ·rw[List.mem_singleton.1 hp];simp)
      rw[<-h4] at hbd;have hbd2:=(jE (once n true) f to[k] (zs2,cy2,lg2) hbd.2).1;have hb:=ih to[k] zs2 cy2 lg2 hcall hbd.2;generalize hS:szF (once n true) f to[k] (zs2,cy2,lg2)=S at hb hbd2
      have h6:(min (sm+S.1) 65,S.2)=szL (szF (once n true) f) (to.take (k+1)) (0,(zs++[(c,-1)],cy,lg)):=by
       rw[aS hkl,vQ,<-h4,<-hS]
      repeat' ((conv=>whnf);first|exact kQ|(refine bk ?_ ?_<;>intro _<;>try(exfalso;omega))|refine stq ?_|refine Cll.emb hb [(0,0),(1,1),(2,2),(3,3),(4,4)] [] (i64 S.1) [(0,.cells [boo S.2.2.1] true),(1,.cells [boo S.2.2.2] true),(2,.map (zsM S.2.1)),(3,.cells [.map 2] true),(4,.cells [yI n] true)] [] rfl cZ bxA rdA bxA reA ?_|refine Chk.mk (fg (by simp only;simp only at hbd;omega) (by simp only;simp only at hbd;omega)) ?_|fail)
      all_goals(conv=>whnf)
      all_goals first
       | (refine⟨k+1,(min (sm+S.1) 65,S.2.1),(S.2.2.1,S.2.2.2),⟨by omega,h6⟩,by omega,?_⟩
          exact lq0)
     ·obtain⟨ks,hks⟩:=qI (once n true) f (to.take k) (0,(zs++[(c,-1)],cy,lg));rw[<-h4] at hks;have hR2:R=(sm,(zs2,(cy2,lg2))):=by rw[<-hR];rw[kE om] at h4;exact h4.symm
      subst hR2
      obtain⟨i,v,hlk⟩:∃ i v,lkZ c zs2 0=some (i,v):=by
       cases hl:lkZ c zs2 0 with
       | some q=>exact⟨q.1,q.2,rfl⟩
       | none=>
        exfalso;have h5:=io.1 hl;have h6:c∈zs2.map (·.1):=by rw[hks];simp
        obtain⟨p,hp1,hp2⟩:=List.mem_map.1 h6;exact h5 p hp1 hp2
      have hset:(zsM zs2).set i (i64 c,i64 sm)=zsM (mf c sm zs2):=by simp only[zsM,mf,hlk,List.map_set]
      cases lg2
      ·repeat' ((conv=>whnf);first|exact kQ|(refine bk ?_ ?_<;>intro _<;>try(exfalso;omega))|refine stq ?_|(refine cB.int (λ_ _ hq=>?_) (λhq=>?_)<;>(rw[hlk] at hq;first|(cases hq;done)|(simp only[kA,kB] at hq;obtain⟨rfl,rfl⟩:=hq)))|fail)
       all_goals(conv=>whnf)
       all_goals first
        | (refine⟨Or.inr rfl,_,rfl,?_⟩
           exact lq0)
      ·repeat' ((conv=>whnf);first|exact kQ|(refine bk ?_ ?_<;>intro _<;>try(exfalso;omega))|refine stq ?_|(refine cB.int (λ_ _ hq=>?_) (λhq=>?_)<;>(rw[hlk] at hq;first|(cases hq;done)|(simp only[kA,kB] at hq;obtain⟨rfl,rfl⟩:=hq)))|fail)
       all_goals(conv=>whnf)
       all_goals first
        | (refine⟨Or.inr rfl,_,rfl,?_⟩
           exact lq0)
end Go.Proofs.YtihggclfifimoaaGreatDoor
