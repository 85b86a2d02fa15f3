/-
  The pairs that are put together, in plain Lean.
-/
import Derived.Test.YtihggclfifimoaaGreatDoorI4
set_option linter.unusedSectionVars false
namespace Go.Proofs.YtihggclfifimoaaGreatDoor
set_option maxHeartbeats 4000000
set_option maxRecDepth 100000
section
open Go Go.Am Classical
set_option linter.unusedVariables false
def lkP (a b:Int):List ((Int×Int)×Int)->Nat->Option (Nat×Int)
 | [],_=>none
 | (k,x)::m,i=>if k=(a,b) then some (i,x) else lkP a b m (i+1)
theorem uP {a b:Int}{k:Int×Int}{x:Int}:∀ (m:List ((Int×Int)×Int)) (i:Nat),(lkP a b (m++[(k,x)]) i).map (·.2)=match(lkP a b m i).map (·.2) with|some w=>some w|none=>if k=(a,b) then some x else none
 | [],i=>by simp only[List.nil_append,lkP];split<;>rfl
 | (k',x')::m,i=>by
  simp only[List.cons_append,lkP];split
  ·rfl
  ·exact uP m (i+1)
def DI (n:Nm) (m:Mpg):Prop:=m.tag=[]∧m.to.length=2∧bM n.xc m.frm=false∧cls n m.frm=0∧cls n (m.to.getD 0 0)=0∧hc (m.to.getD 0 0) (m.to.getD 1 0)=none
noncomputable def fE (n:Nm) (M:List ((Int×Int)×Int)) (m:Mpg):List ((Int×Int)×Int):=
 if DI n m then(match lkP (m.to.getD 0 0) (m.to.getD 1 0) M 0 with|some _=>M|none=>M++[((m.to.getD 0 0,m.to.getD 1 0),m.frm)]) else M
noncomputable def bS (n:Nm) (l:List Mpg):List ((Int×Int)×Int):=l.foldl (fE n) []
theorem dE {n:Nm}{l:List Mpg}{m:Mpg}:bS n (l++[m])=fE n (bS n l) m:=by simp[bS]
theorem Cp {l:List Int}(h:l.length=2):l=[l.getD 0 0,l.getD 1 0]:=by
 match l,h with
 | [a,b],_=>rfl
theorem zF {n:Nm}{a b:Int}{m:Mpg}(hab:hc a b=none):ci n a b m↔DI n m∧(m.to.getD 0 0,m.to.getD 1 0)=(a,b):=by
 unfold ci DI;constructor
 ·rintro⟨h1,h2,h3,h4,h5⟩;rw[h2];exact⟨⟨h1,rfl,h3,h4,h5,hab⟩,rfl⟩
 ·rintro⟨⟨h1,h2,h3,h4,h5,h6⟩,h7⟩;injection h7 with h7 h8
  refine⟨h1,?_,h3,h4,by rw[<-h7];exact h5⟩;rw[Cp h2,h7,h8]
theorem zq {n:Nm}{a b:Int}(hab:hc a b=none):∀ (l r:List Mpg),(lkP a b (bS n r) 0).map (·.2)=(r.find? λm=>decide (ci n a b m)).map (·.frm)->(lkP a b (bS n (r++l)) 0).map (·.2)=((r++l).find? λm=>decide (ci n a b m)).map (·.frm)
 | [],r,h=>by simpa using h
 | m::l,r,h=>by
  have key:(lkP a b (bS n (r++[m])) 0).map (·.2)=((r++[m]).find? λm=>decide (ci n a b m)).map (·.frm):=by
   rw[dE,List.find?_append];have hq:=zF (n:=n) (m:=m) hab;unfold fE;by_cases h1:DI n m
   ·rw[if_pos h1];by_cases h2:(m.to.getD 0 0,m.to.getD 1 0)=(a,b)
    ·have hcm:decide (ci n a b m)=true:=decide_eq_true (hq.2 ⟨h1,h2⟩);injection h2 with h3 h4
     rw[h3,h4];cases hl:lkP a b (bS n r) 0 with
     | some q=>
      rw[hl] at h;simp only[kF] at h;simp only;rw[hl];cases hf:r.find? λm=>decide (ci n a b m) with
      | some m'=>rw[hf] at h;simpa using h
      | none=>rw[hf] at h;simp at h
     | none=>
      rw[hl] at h;simp only;rw[uP,hl];simp only[Option.map_none,if_true];cases hf:r.find? λm=>decide (ci n a b m) with
      | some m'=>rw[hf] at h;simp at h
      | none=>simp[hcm]
    ·have hcm:decide (ci n a b m)=false:=decide_eq_false λhc=>h2 (hq.1 hc).2
     have e:(match lkP (m.to.getD 0 0) (m.to.getD 1 0) (bS n r) 0 with|some _=>bS n r|none=>bS n r++[((m.to.getD 0 0,m.to.getD 1 0),m.frm)])=bS n r∨(match lkP (m.to.getD 0 0) (m.to.getD 1 0) (bS n r) 0 with|some _=>bS n r|none=>bS n r++[((m.to.getD 0 0,m.to.getD 1 0),m.frm)])=bS n r++[((m.to.getD 0 0,m.to.getD 1 0),m.frm)]:=by split;exact .inl rfl;exact .inr rfl
     have e2:(r.find? λm=>decide (ci n a b m)).or ([m].find? λm=>decide (ci n a b m))=r.find? λm=>decide (ci n a b m):=by
      rw[List.find?_cons_of_neg (by simp[hcm])];simp
     rw[e2,<-h];rcases e with e|e
     ·rw[e]
     ·rw[e,uP,if_neg h2];cases(lkP a b (bS n r) 0).map (·.2)<;>rfl
   ·rw[if_neg h1,h];have hcm:decide (ci n a b m)=false:=decide_eq_false λhc=>h1 (hq.1 hc).1
    rw[List.find?_cons_of_neg (by simp[hcm])];simp
  have:=zq hab l (r++[m]) key
  simpa using this
theorem wo {n:Nm}{a b:Int}:jn n a b=match hc a b with|some w=>some w|none=>(lkP a b (bS n n.dc) 0).map (·.2):=by
 unfold jn;cases h:hc a b with
 | some w=>rfl
 | none=>exact(zq h n.dc [] rfl).symm
end
section
open Go Go.Am Classical
set_option linter.unusedVariables false
theorem xXI.rdX {p:Prop}(h:p:=by first|exact Rd.tup (.cons (.same rfl) (.cons (.same rfl) .nil))|fail):p:=h
theorem xXI.rbX {p:Prop}(h:p:=by first|exact Rb.map (Res.same (BZ _))|fail):p:=h
open xXI
abbrev yp (a b:Int):D:=.agg [i64 a,i64 b]
abbrev db (M:List ((Int×Int)×Int)):List (D×D):=M.map λp=>(yp p.1.1 p.1.2,i64 p.2)
theorem BZ (M:List ((Int×Int)×Int)):∀ p∈db M,aL p.1=true∧aL p.2=true:=λp hp=>by
 obtain⟨q,_,rfl⟩:=List.mem_map.1 hp;exact⟨rfl,rfl⟩
theorem BB {h:aB}{a b x y:Int}:az h (yp a b) (yp x y)=some (decide ((x,y)=(a,b))):=by
 simp only[az,f9,iX,c5,if_true];congr 1;by_cases e:(x,y)=(a,b)
 ·rw[decide_eq_true e];injection e with e1 e2;subst e1;subst e2;simp
 ·rw[decide_eq_false e,Bool.eq_false_iff];intro hc;simp only[kC,beq_iff_eq] at hc;exact e (by rw[hc.1,hc.2])
theorem AN {h:aB}{a b:Int}:∀ {M:List ((Int×Int)×Int)}{i:Nat},bo h (yp a b) (db M) i=some ((lkP a b M i).map λq=>(q.1,i64 q.2))
 | [],i=>rfl
 | ((u,w),x)::M,i=>by
  simp only[List.map_cons,bo,BB,lkP];by_cases e:(u,w)=(a,b)
  ·rw[decide_eq_true e,if_pos e];rfl
  ·rw[decide_eq_false e,if_neg e];exact AN
theorem cB.two {h:aB}{a b:Int}{M:List ((Int×Int)×Int)}{K:Option (Nat×D)->Prop}(yes:∀ i x,lkP a b M 0=some (i,x)->K (some (i,i64 x))) (no:lkP a b M 0=none->K none):cB h (yp a b) (db M) K:=by
 refine⟨_,AN,?_⟩;cases e:lkP a b M 0 with
 | none=>exact no e
 | some q=>exact yes q.1 q.2 e
noncomputable def jnD (n:Nm) (a b:Int):D:=match jn n a b with|some w=>.tup [i64 w,boo true]|none=>.tup [i64 0,boo false]
theorem join_c {n:Nm}{a b:Int}:AC1 Tryz.prog 269 [.map 0,i64 a,i64 b] ⟨1,[(0,.map (db (bS n n.dc)))]⟩ (jnD n a b) ⟨1,[(0,.map (db (bS n n.dc)))]⟩:=by
 have h1:=AK (a:=a) (b:=b);have hj:=wo (n:=n) (a:=a) (b:=b);unfold hcD at h1;cases hh:hc a b with
 | some w=>
  rw[hh] at h1 hj;simp only at h1 hj;rw[show jnD n a b=.tup [i64 w,boo true] by unfold jnD;rw[hj]];refine AC1.of_vf aA T0 Tryz.func269 rfl rfl ?_;repeat' ((conv=>whnf);first|exact kQ|(refine bk ?_ ?_<;>intro _<;>try(exfalso;omega))|refine stq ?_|refine cp h1 ?_|fail)
  all_goals(conv=>whnf)
  refine⟨Or.inr rfl,_,rfl,?_⟩;exact lq0
 | none=>
  rw[hh] at h1 hj;simp only at h1 hj;cases hl:lkP a b (bS n n.dc) 0 with
  | some q=>
   rw[hl] at hj;simp only[kF] at hj;rw[show jnD n a b=.tup [i64 q.2,boo true] by unfold jnD;rw[hj]];refine AC1.of_vf aA T0 Tryz.func269 rfl rfl ?_;repeat' ((conv=>whnf);first|exact kQ|(refine bk ?_ ?_<;>intro _<;>try(exfalso;omega))|refine stq ?_|refine cp h1 ?_|(refine cB.two (λi x hq=>?_) (λhq=>?_)<;>(rw[hl] at hq;first|(cases hq;done)|skip))|fail)
   all_goals(conv=>whnf)
   injection hq with hq
   subst hq;refine⟨Or.inr rfl,_,rfl,?_⟩;exact lq0
  | none=>
   rw[hl] at hj;simp only[Option.map_none] at hj;rw[show jnD n a b=.tup [i64 0,boo false] by unfold jnD;rw[hj]];refine AC1.of_vf aA T0 Tryz.func269 rfl rfl ?_;repeat' ((conv=>whnf);first|exact kQ|(refine bk ?_ ?_<;>intro _<;>try(exfalso;omega))|refine stq ?_|refine cp h1 ?_|(refine cB.two (λi x hq=>?_) (λhq=>?_)<;>(rw[hl] at hq;first|(cases hq;done)|skip))|fail)
   all_goals(conv=>whnf)
   refine⟨Or.inr rfl,_,rfl,?_⟩;exact lq0
end
section
open Go Go.Am Classical
set_option linter.unusedVariables false
theorem xXJ.rdX {p:Prop}(h:p:=by first|exact Rd.map rfl|exact Rd.same (bH _)|fail):p:=h
theorem xXJ.rbX {p:Prop}(h:p:=by first|exact Rb.map (Res.same (BZ _))|exact Rb.map .nil|exact Rb.map (Res.eqs hMe.symm (BZ _))|exact Rb.cells (Rds.same (ce n)) rfl|exact Rb.map (Res.eqs (by first|(rw[hM];done)|fail) (BZ _))|fail):p:=h
open xXJ
theorem EC {l:List Rng}{c:Int}(hl:l.length<=100000):Pu Tryz.prog 82 [fJ l,i64 c] (boo (bM l c)):=by
 have hv:=lS (n:=c);refine pv Tryz.func82 ?_;by_cases h0:0<=c∧c<=1114111
 ·rw[decide_eq_true h0] at hv;repeat' ((conv=>whnf);first|exact kQ|(refine bk ?_ ?_<;>intro _<;>try(exfalso;omega))|refine stq ?_|refine cp hv ?_|fail)
  refine aH.by aA T0 (λk:Nat=>⟨tmp 28 [(1,i64 c),(11,bD l),(12,i64 (l.length:Int)),(13,i64 (k:Int))],⟨0,[]⟩⟩) (λk=>k<=l.length∧∀ i (h:i<l.length),i<k->¬(l[i].lo<=c∧c<=l[i].hi)) (λk=>l.length-k) 0 ⟨by omega,λ_ _ h=>by omega⟩ ?_ ?_
  ·exact lq0
  intro k ⟨h3,h4⟩;by_cases hk:k<l.length
  ·by_cases hr:l[k].lo<=c∧c<=l[k].hi
   ·have e:bM l c=true:=cG.2 ⟨h0,⟨l[k],kM hk,hr⟩⟩;rw[e];repeat' ((conv=>whnf);first|exact kQ|(refine bk ?_ ?_<;>intro _<;>try(exfalso;omega))|refine stq ?_)
    all_goals(conv=>whnf)
    exact aE.same rfl rfl
   ·repeat' ((conv=>whnf);first|exact kQ|(refine bk ?_ ?_<;>intro _<;>try(exfalso;omega))|refine stq ?_)
    all_goals(conv=>whnf)
    all_goals
     refine⟨k+1,⟨by omega,ad hk h4 hr⟩,by omega,?_⟩;exact lq0
  ·have e:bM l c=false:=by
    rw[Bool.eq_false_iff];intro h;obtain⟨_,r,hr,h5⟩:=cG.1 h;obtain⟨i,hi,rfl⟩:=List.getElem_of_mem hr;exact h4 i hi om h5
   rw[e];repeat' ((conv=>whnf);first|exact kQ|(refine bk ?_ ?_<;>intro _<;>try(exfalso;omega))|refine stq ?_)
   all_goals(conv=>whnf)
   exact aE.same rfl rfl
 ·rw[decide_eq_false h0] at hv
  have e:bM l c=false:=by
   rw[Bool.eq_false_iff];intro h;exact h0 (cG.1 h).1
  rw[e];repeat' ((conv=>whnf);first|exact kQ|(refine bk ?_ ?_<;>intro _<;>try(exfalso;omega))|refine stq ?_|refine cp hv ?_|fail)
  all_goals(conv=>whnf)
  exact aE.same rfl rfl
theorem AC {a b:Int}{i:Nat}{x:Int}:∀ {M:List ((Int×Int)×Int)}{j:Nat},lkP a b M j=some (i,x)->∃ k,(k,x)∈M
 | [],_,h=>by simp[lkP] at h
 | (k,y)::M,j,h=>by
  simp only[lkP] at h;split at h
  ·injection h with h;injection h with _ h;subst h;exact⟨k,by simp⟩
  ·obtain⟨k',h'⟩:=AC h;exact⟨k',List.mem_cons_of_mem _ h'⟩
theorem A4 {n:Nm}{M:List ((Int×Int)×Int)}{m:Mpg}{p:(Int×Int)×Int}(h:p∈fE n M m):p∈M∨p.2=m.frm:=by
 unfold fE at h;split at h
 ·split at h
  ·exact .inl h
  ·rcases List.mem_append.1 h with h|h
   ·exact .inl h
   ·rw[List.mem_singleton.1 h];exact .inr rfl
 ·exact .inl h
theorem DM {n:Nm}{l:List Mpg}{k:Nat}:∀ p∈bS n (l.take k),∃ j,∃ h:j<l.length,j<k∧p.2=l[j].frm:=by
 induction k with
 | zero=>intro p hp;simp[bS] at hp
 | succ k ih=>
  intro p hp;by_cases hk:k<l.length
  ·rw[List.take_succ_eq_append_getElem hk,dE] at hp;rcases A4 hp with hp|hp
   ·obtain⟨j,h1,h2,h3⟩:=ih p hp;exact⟨j,h1,by omega,h3⟩
   ·exact⟨k,hk,by omega,hp⟩
  ·rw[kE om] at hp;rw[kE om] at ih;obtain⟨j,h1,h2,h3⟩:=ih p hp;exact⟨j,h1,by omega,h3⟩
theorem args2 {x y:D}{a b:Int}(h:[x,i64 a]=[y,i64 b]):a=b:=by injection h with _ h;injection h with h;injection h with h;injection h
noncomputable abbrev cpB (n:Nm) (k:Nat):St:=⟨tmp 89 [(1,.ptr 0 0),(3,.map 1),(13,ag n.dc),(14,i64 (n.dc.length:Int)),(15,i64 (k:Int))],⟨2,[(0,.cells (nmC n) true),(1,.map (db (bS n (n.dc.take k))))]⟩⟩
theorem nV {n:Nm}(hn:n.ok) (hG:NmG n):Pk Tryz.prog 268 [nmD n] 1 (λk=>.map k) (λk=>[(k,.map (db (bS n n.dc)))]):=by
 refine Pk.of_v aA T0 Tryz.func268 rfl rfl (aD (aQ n) rfl) ?_;repeat' ((conv=>whnf);first|exact kQ|(refine bk ?_ ?_<;>intro _<;>try(exfalso;omega))|refine stq ?_)
 refine aH.by aA T0 (λk:Nat=>cpB n k) (λk=>k<=n.dc.length) (λk=>n.dc.length-k) 0 om ?_ ?_
 ·exact lq [(0,0),(1,2)] []
 intro k h3;by_cases hk:k<n.dc.length
 ·have hto:=hn.to k hk;have hdc:=hn.dc;have hus:fG n.cl=n.cl:=if_pos hG.cls;by_cases ht:n.dc[k].tag=[]
  ·by_cases hl2:n.dc[k].to.length=2
   ·have hhas:=EC (l:=n.xc) (c:=n.dc[k].frm) (by have:=hn.xc;omega);cases hx:bM n.xc n.dc[k].frm with
    | true=>
     rw[hx] at hhas
     have hM:bS n (n.dc.take (k+1))=bS n (n.dc.take k):=by
      rw[List.take_succ_eq_append_getElem hk,dE];unfold fE;rw[if_neg (λh=>by have:=h.2.2.1;rw[hx] at this;cases this)]
     repeat' ((conv=>whnf);first|exact kQ|(refine bk ?_ ?_<;>intro _<;>try(exfalso;omega))|refine stq ?_|refine cp hhas ?_|refine aX.by (id:=6) aA T0 [0,1,0,4,15,31,63,127,255,127,639,1663,3711,8191,16383,32767] (by kernel_rfl) ?_|refine aX.by (id:=7) aA T0 [0,1,3,7,0,16,48,112,255,0,1023] (by kernel_rfl) ?_|refine Chk.mk ⟨_,rfl⟩ ?_|refine Chk.mk (λ_=>rfl) ?_|fail)
     all_goals(conv=>whnf)
     all_goals first
      | contradiction
      | (refine⟨k+1,by omega,by omega,?_⟩
         exact lq [(0,0),(1,1)] [])
    | false=>
     rw[hx] at hhas;have ea:n.dc[k].to.getD 0 0=n.dc[k].to[0]'(by omega):=gDe om;have eb:n.dc[k].to.getD 1 0=n.dc[k].to[1]'(by omega):=gDe om;have hst1:=oW (l:=n.cl) (c:=n.dc[k].frm) hn.cl;have hst2:=oW (l:=n.cl) (c:=n.dc[k].to[0]'(by omega)) hn.cl;rw[hus] at hst1 hst2;by_cases h1:aJ n.cl n.dc[k].frm=0
     ·rw[decide_eq_true h1] at hst1;by_cases h2:aJ n.cl (n.dc[k].to[0]'(by omega))=0
      ·rw[decide_eq_true h2] at hst2;have hcc:=AK (a:=n.dc[k].to[0]'(by omega)) (b:=n.dc[k].to[1]'(by omega));unfold hcD at hcc;cases hh:hc (n.dc[k].to[0]'(by omega)) (n.dc[k].to[1]'(by omega)) with
       | some w=>
        rw[hh] at hcc;simp only at hcc
        have hM:bS n (n.dc.take (k+1))=bS n (n.dc.take k):=by
         rw[List.take_succ_eq_append_getElem hk,dE];unfold fE;rw[if_neg (λh=>by have:=h.2.2.2.2.2;rw[ea,eb,hh] at this;cases this)]
        repeat' ((conv=>whnf);first|exact kQ|(refine bk ?_ ?_<;>intro _<;>try(exfalso;omega))|refine stq ?_|refine cp hhas ?_|refine cp hst1 ?_|refine cp hst2 ?_|refine cp hcc ?_|refine aX.by (id:=6) aA T0 [0,1,0,4,15,31,63,127,255,127,639,1663,3711,8191,16383,32767] (by kernel_rfl) ?_|refine aX.by (id:=7) aA T0 [0,1,3,7,0,16,48,112,255,0,1023] (by kernel_rfl) ?_|refine Chk.mk ⟨_,rfl⟩ ?_|refine Chk.mk (λ_=>rfl) ?_|fail)
        all_goals(conv=>whnf)
        all_goals first
         | contradiction
         | (refine⟨k+1,by omega,by omega,?_⟩
            exact lq [(0,0),(1,1)] [])
       | none=>
        rw[hh] at hcc;simp only at hcc;have hq0:DI n n.dc[k]:=⟨ht,hl2,hx,h1,by rw[ea];exact h2,by rw[ea,eb];exact hh⟩;cases hlk:lkP (n.dc[k].to[0]'(by omega)) (n.dc[k].to[1]'(by omega)) (bS n (n.dc.take k)) 0 with
        | some q=>
         obtain⟨qi,qx⟩:=q
         have hlt:qx<n.dc[k].frm:=by
          obtain⟨kk,hmem⟩:=AC hlk;obtain⟨j,j1,j2,j3⟩:=DM _ hmem;have:=iY hG.rise (i:=j) (k-j-1) j1 om
          simp only[show j+(k-j-1)+1=k by omega] at this;simp only at j3;rw[j3];exact this
         have hM:bS n (n.dc.take (k+1))=bS n (n.dc.take k):=by
          rw[List.take_succ_eq_append_getElem hk,dE];unfold fE;rw[if_pos hq0,ea,eb,hlk]
         repeat' ((conv=>whnf);first|exact kQ|(refine bk ?_ ?_<;>intro _<;>try(exfalso;omega))|refine stq ?_|refine cp hhas ?_|refine cp hst1 ?_|refine cp hst2 ?_|refine cp hcc ?_|refine aX.by (id:=6) aA T0 [0,1,0,4,15,31,63,127,255,127,639,1663,3711,8191,16383,32767] (by kernel_rfl) ?_|refine aX.by (id:=7) aA T0 [0,1,3,7,0,16,48,112,255,0,1023] (by kernel_rfl) ?_|(refine cB.two (λi x hq=>?_) (λhq=>?_)<;>(rw[hlk] at hq;cases hq))|refine Chk.mk ⟨_,rfl⟩ ?_|refine Chk.mk (λ_=>rfl) ?_|fail)
         all_goals(conv=>whnf)
         all_goals first
          | contradiction
          | (refine⟨k+1,by omega,by omega,?_⟩
             exact lq [(0,0),(1,1)] [])
        | none=>
         have hM:bS n (n.dc.take (k+1))=bS n (n.dc.take k)++[((n.dc[k].to[0]'(by omega),n.dc[k].to[1]'(by omega)),n.dc[k].frm)]:=by
          rw[List.take_succ_eq_append_getElem hk,dE];unfold fE;rw[if_pos hq0,ea,eb,hlk]
         have hMe:db (bS n (n.dc.take (k+1)))=db (bS n (n.dc.take k))++[(yp (n.dc[k].to[0]'(by omega)) (n.dc[k].to[1]'(by omega)),i64 n.dc[k].frm)]:=by rw[hM];exact List.map_append
         repeat' ((conv=>whnf);first|exact kQ|(refine bk ?_ ?_<;>intro _<;>try(exfalso;omega))|refine stq ?_|refine cp hhas ?_|refine cp hst1 ?_|refine cp hst2 ?_|refine cp hcc ?_|refine aX.by (id:=6) aA T0 [0,1,0,4,15,31,63,127,255,127,639,1663,3711,8191,16383,32767] (by kernel_rfl) ?_|refine aX.by (id:=7) aA T0 [0,1,3,7,0,16,48,112,255,0,1023] (by kernel_rfl) ?_|(refine cB.two (λi x hq=>?_) (λhq=>?_)<;>(rw[hlk] at hq;cases hq))|refine Chk.mk ⟨_,rfl⟩ ?_|refine Chk.mk (λ_=>rfl) ?_|fail)
         all_goals(conv=>whnf)
         all_goals first
          | contradiction
          | (refine⟨k+1,by omega,by omega,?_⟩
             exact lq [(0,0),(1,1)] [])
      ·rw[decide_eq_false h2] at hst2
       have hM:bS n (n.dc.take (k+1))=bS n (n.dc.take k):=by
        rw[List.take_succ_eq_append_getElem hk,dE];unfold fE;rw[if_neg (λh=>h2 (by rw[<-ea];exact h.2.2.2.2.1))]
       repeat' ((conv=>whnf);first|exact kQ|(refine bk ?_ ?_<;>intro _<;>try(exfalso;omega))|refine stq ?_|refine cp hhas ?_|refine cp hst1 ?_|refine cp hst2 ?_|refine aX.by (id:=6) aA T0 [0,1,0,4,15,31,63,127,255,127,639,1663,3711,8191,16383,32767] (by kernel_rfl) ?_|refine aX.by (id:=7) aA T0 [0,1,3,7,0,16,48,112,255,0,1023] (by kernel_rfl) ?_|refine Chk.mk ⟨_,rfl⟩ ?_|refine Chk.mk (λ_=>rfl) ?_|refine Chk.mk (λh=>absurd (show aJ n.cl (n.dc[k].to[0]'(by omega))=0 by rw[args2 h];exact h1) h2) ?_|fail)
       all_goals(conv=>whnf)
       all_goals first
        | contradiction
        | (refine⟨k+1,by omega,by omega,?_⟩
           exact lq [(0,0),(1,1)] [])
     ·rw[decide_eq_false h1] at hst1
      have hM:bS n (n.dc.take (k+1))=bS n (n.dc.take k):=by
       rw[List.take_succ_eq_append_getElem hk,dE];unfold fE;rw[if_neg (λh=>h1 h.2.2.2.1)]
      repeat' ((conv=>whnf);first|exact kQ|(refine bk ?_ ?_<;>intro _<;>try(exfalso;omega))|refine stq ?_|refine cp hhas ?_|refine cp hst1 ?_|refine aX.by (id:=6) aA T0 [0,1,0,4,15,31,63,127,255,127,639,1663,3711,8191,16383,32767] (by kernel_rfl) ?_|refine aX.by (id:=7) aA T0 [0,1,3,7,0,16,48,112,255,0,1023] (by kernel_rfl) ?_|refine Chk.mk ⟨_,rfl⟩ ?_|refine Chk.mk (λ_=>rfl) ?_|fail)
      all_goals(conv=>whnf)
      all_goals first
       | contradiction
       | (refine⟨k+1,by omega,by omega,?_⟩
          exact lq [(0,0),(1,1)] [])
   ·have hM:bS n (n.dc.take (k+1))=bS n (n.dc.take k):=by
     rw[List.take_succ_eq_append_getElem hk,dE];unfold fE;rw[if_neg (λh=>hl2 h.2.1)]
    repeat' ((conv=>whnf);first|exact kQ|(refine bk ?_ ?_<;>intro _<;>try(exfalso;omega))|refine stq ?_|refine aX.by (id:=6) aA T0 [0,1,0,4,15,31,63,127,255,127,639,1663,3711,8191,16383,32767] (by kernel_rfl) ?_|refine aX.by (id:=7) aA T0 [0,1,3,7,0,16,48,112,255,0,1023] (by kernel_rfl) ?_|refine Chk.mk ⟨_,rfl⟩ ?_|refine Chk.mk (λ_=>rfl) ?_|fail)
    all_goals(conv=>whnf)
    all_goals first
     | contradiction
     | (refine⟨k+1,by omega,by omega,?_⟩
        exact lq [(0,0),(1,1)] [])
  ·have hM:bS n (n.dc.take (k+1))=bS n (n.dc.take k):=by
    rw[List.take_succ_eq_append_getElem hk,dE];unfold fE;rw[if_neg (λh=>ht h.1)]
   repeat' ((conv=>whnf);first|exact kQ|(refine bk ?_ ?_<;>intro _<;>try(exfalso;omega))|refine stq ?_|refine aX.by (id:=6) aA T0 [0,1,0,4,15,31,63,127,255,127,639,1663,3711,8191,16383,32767] (by kernel_rfl) ?_|refine aX.by (id:=7) aA T0 [0,1,3,7,0,16,48,112,255,0,1023] (by kernel_rfl) ?_|refine Chk.mk ⟨_,rfl⟩ ?_|refine Chk.mk (λ_=>rfl) ?_|fail)
   all_goals(conv=>whnf)
   all_goals first
    | contradiction
    | (refine⟨k+1,by omega,by omega,?_⟩
       exact lq [(0,0),(1,1)] [])
 ·obtain rfl:k=n.dc.length:=by omega
  unfold cpB;rw[List.take_length];repeat' ((conv=>whnf);first|exact kQ|(refine bk ?_ ?_<;>intro _<;>try(exfalso;omega))|refine stq ?_|fail)
  all_goals(conv=>whnf)
  exact⟨[1],rfl,⟨by simp,λn=>.map (by simp[sgn]),λn=>.cons (id:=1) (by simp[sgn]) rfl rfl (.map (.same (BZ _))) .nil⟩⟩
end
section
open Go Go.Am Classical
set_option linter.unusedVariables false
section
variable {cls:Int->Int}{jn:Int->Int->Option Int}
def CTx (cls:Int->Int) (jn:Int->Int->Option Int) (R t:List Int) (k:Nat) (o:List Int) (sp:Option Nat) (bef:Int):Prop:=
 k<=t.length∧o.length<=k∧(∀ z,o.getLast?=some z->(match sp with|none=>True|some p=>p+1<o.length)->bef=cls z) ∧
 match sp with
 | none=>R=cz cls jn none o (t.drop k)
 | some p=>p<o.length∧R=o.take p++cz cls jn (some (o.getD p 0)) (o.drop (p+1)) (t.drop k)
theorem CTx.start (t:List Int):CTx cls jn (ft cls jn t) t 0 [] none 0:=⟨by omega,by simp,λz h=>by simp at h,rfl⟩
theorem Bi {o:List Int}{p:Nat}(h:p+1<o.length):(o.drop (p+1)).getLast?=o.getLast?:=by
 rw[List.getLast?_drop,if_neg om]
def may (o:List Int) (sp:Option Nat) (bef c:Int) (cls:Int->Int):Prop:=match sp with|none=>False|some p=>¬(p+1<o.length∧cls c<=bef)
theorem CTx.mayJ {R t o:List Int}{k p:Nat}{bef:Int}(h:CTx cls jn R t k o (some p) bef) (c:Int):opn cls (o.drop (p+1)) c=true↔may o (some p) bef c cls:=by
 obtain⟨h1,h2,h3,h4,h5⟩:=h;unfold may opn;by_cases hp:p+1<o.length
 ·rw[Bi hp];cases hl:o.getLast? with
  | none=>rw[List.getLast?_eq_none_iff] at hl;subst hl;simp at hp
  | some z=>
   have:=h3 z hl hp
   simp only[decide_eq_true_eq];constructor
   ·intro h6 h7;omega
   ·intro h6
    have:¬cls c<=bef:=λh7=>h6 ⟨hp,h7⟩
    omega
 ·rw[List.drop_of_length_le om];simp only[List.getLast?_nil,true_iff];exact λh6=>hp h6.1
theorem CTx.join {R t o:List Int}{k p:Nat}{bef w:Int}(h:CTx cls jn R t k o (some p) bef) (hk:k<t.length) (hm:may o (some p) bef t[k] cls) (hj:jn (o.getD p 0) t[k]=some w):CTx cls jn R t (k+1) (o.set p w) (some p) bef:=by
 have ho:=(h.mayJ t[k]).2 hm;obtain⟨h1,h2,h3,h4,h5⟩:=h;refine⟨by omega,by rw[List.length_set];omega,?_,by rw[List.length_set];exact h4,?_⟩
 ·intro z hz hp;rw[List.length_set] at hp;refine h3 z ?_ hp;rw[List.getLast?_eq_getElem?,List.length_set,List.getElem?_set_ne om] at hz;rw[List.getLast?_eq_getElem?];exact hz
 ·rw[List.take_set_of_le om,List.getD_eq_getElem?_getD,List.getElem?_set_self h4,List.drop_set_of_lt om,h5,kK hk];simp only[cz,jns,ho,if_true,hj];rfl
theorem CTx.add {R t o:List Int}{k:Nat}{sp:Option Nat}{bef:Int}(h:CTx cls jn R t k o sp bef) (hk:k<t.length) (hn:∀ p,sp=some p->may o sp bef t[k] cls->jn (o.getD p 0) t[k]=none):CTx cls jn R t (k+1) (o++[t[k]]) (if cls t[k]=0 then some o.length else sp) (cls t[k]):=by
 have hlen:(o++[t[k]]).length=o.length+1:=by simp
 have eG:(o++[t[k]]).getD o.length 0=t[k]:=by simp[List.getD_eq_getElem?_getD]
 have eD:(o++[t[k]]).drop (o.length+1)=[]:=List.drop_of_length_le om;have eT:(o++[t[k]]).take o.length=o:=List.take_left' rfl;obtain⟨h1,h2,h3,h4⟩:=id h;refine⟨by omega,by omega,λz hz _=>by rw[List.getLast?_concat] at hz;injection hz with hz;rw[hz],?_⟩;rw[kK hk] at h4;cases sp with
 | none=>
  simp only[cz,jns] at h4;by_cases hc:cls t[k]=0
  ·rw[if_pos hc] at h4 ⊢;refine⟨by omega,?_⟩;rw[h4,eT,eG,eD];rfl
  ·rw[if_neg hc] at h4 ⊢;exact h4
 | some p=>
  obtain⟨hp,h5⟩:=h4
  have hj:jns cls jn (some (o.getD p 0)) (o.drop (p+1)) t[k]=none:=by
   unfold jns;simp only;by_cases ho:opn cls (o.drop (p+1)) t[k]=true
   ·rw[if_pos ho];exact hn p rfl ((h.mayJ t[k]).1 ho)
   ·rw[if_neg ho]
  simp only[cz,hj] at h5;by_cases hc:cls t[k]=0
  ·rw[if_pos hc] at h5 ⊢;refine⟨by omega,?_⟩;rw[h5,eT,eG,eD]
   have e:o=o.take p++(o.getD p 0::o.drop (p+1)):=by
    conv=>lhs;rw[<-List.take_append_drop p o,kK hp]
    rw[List.getD_eq_getElem?_getD,List.getElem?_eq_getElem hp];rfl
   show _=o++_
   conv=>rhs;rw[e]
   simp[Option.toList]
  ·rw[if_neg hc] at h5 ⊢;refine⟨by omega,?_⟩;rw[h5,List.take_append_of_le_length om,List.getD_eq_getElem?_getD,List.getD_eq_getElem?_getD,List.getElem?_append_left hp,List.drop_append_of_le_length om]
theorem CTx.done {R t o:List Int}{sp:Option Nat}{bef:Int}(h:CTx cls jn R t t.length o sp bef):R=o:=by
 obtain⟨h1,h2,h3,h4⟩:=h;rw[List.drop_length] at h4;cases sp with
 | none=>simpa [cz] using h4
 | some p=>
  obtain⟨hp,h5⟩:=h4;rw[h5];simp only[cz,Option.toList]
  conv=>rhs;rw[<-List.take_append_drop p o,kK hp]
  rw[List.getD_eq_getElem?_getD,List.getElem?_eq_getElem hp];rfl
end
end
section
open Go Go.Am Classical
set_option linter.unusedVariables false
theorem xXM.rdX {p:Prop}(h:p:=by first|exact Rd.nil|exact Rd.map rfl|exact Rd.int lnI|exact Rd.own sim rfl sim sim|exact Rd.own sim rfl Bg Bg|fail):p:=h
theorem xXM.rbX {p:Prop}(h:p:=by first|exact Rb.map (Res.same (BZ _))|exact Rb.cells (Rds.same (ce n')) rfl|fail):p:=h
open xXM
theorem tB {n n':Nm}(hN:eI n n'):Pu Tryz.prog 267 [nmD n] (nmD n'):=by
 obtain⟨e,h1,h2,h3⟩:=hN.ck;by_cases he:e=0
 ·rw[h2 he];refine Pu.of_v aA T0 Tryz.func267 rfl rfl (aD (aQ n) rfl) ?_;repeat' ((conv=>whnf);first|exact kQ|(refine bk ?_ ?_<;>intro _<;>try(exfalso;omega))|refine stq ?_|refine cp h1 ?_|fail)
  all_goals(conv=>whnf)
  exact aE.same (aQ n) rfl
 ·rw[h3 he];refine Pu.of_v aA T0 Tryz.func267 rfl rfl (aD (aQ n) rfl) ?_;repeat' ((conv=>whnf);first|exact kQ|(refine bk ?_ ?_<;>intro _<;>try(exfalso;omega))|refine stq ?_|refine cp h1 ?_|fail)
  all_goals(conv=>whnf)
  exact⟨.agg (.cons .nil (.cons .nil (.cons .nil .nil)))⟩
structure He (nb:Nat) (st:Nat->List Int->Option Nat->Int->St) (I:Nat->List Int->Option Nat->Int->Prop) (N i:Nat) (s:St):Prop where
 ex:∃ i' o p b,I i' o p b∧N-i' < N-i∧Lf nb s (st i' o p b)
theorem aH.by4 {P:Program}{ti:TI}{nb:Nat}(hm:P.follows .mixedOrders=true) (T:TOk P ti){x:Code}{Q:Exit->St->Prop}{s:St}(st:Nat->List Int->Option Nat->Int->St) (I:Nat->List Int->Option Nat->Int->Prop) (N:Nat) (o:List Int) (p:Option Nat) (b:Int) (hy:I 0 o p b) (hle:Lf nb s (st 0 o p b))
  (round:∀ i o p b,I i o p b->gR P ti nb x (jb (He nb st I N i) Q) (st i o p b)):aH P nb x Q s:=
 aH.gen hm T (α:=Nat×List Int×Option Nat×Int) (λq=>st q.1 q.2.1 q.2.2.1 q.2.2.2) (λq=>I q.1 q.2.1 q.2.2.1 q.2.2.2) (λq=>N-q.1) (λq=>He nb st I N q.1)
  (λ_ _ h=>let⟨i',o,p,b,h1,h2,h3⟩:=h.ex;⟨(i',o,p,b),h1,h2,h3⟩) (0,o,p,b) hy hle λq=>round q.1 q.2.1 q.2.2.1 q.2.2.2
def ownM (id:Nat):List Int->List (Nat×Box)
 | []=>[]
 | x::l=>[(id,.cells ((x::l).map i64) false)]
theorem Bxs.ownM {h:aB}{fz:Nat->Bool}{σ:Nat->Option Nat}{id id':Nat}{l:List Int}{cs:List D}(hl:l≠[]) (hs:σ id'=some id) (hg:h.get id=some (.cells cs false)) (hf:fz id=false) (e:cs=l.map i64):Bxs h fz σ (ownM id' l):=by
 cases l with
 | nil=>exact absurd rfl hl
 | cons x l=>exact .cons hs hg hf (.cells (.eqs e (aN (λ_=>rfl) _)) si) .nil
def spI:Option Nat->Int
 | none=>-1
 | some p=>p
theorem Bg {p:Prop}(h:p:=by first|omega|(simp only[kG,kO,List.length_nil,List.length_set];omega)|(simp;done)|(simp;omega)|fail):p:=h
theorem sC (l:List Int) (w:Int):(((l.map i64).drop 0).take (l.length*1))++[i64 w]=(l++[w]).map i64:=by
 rw[List.drop_zero,kE si,List.map_append];rfl
theorem lnI {p:Prop}(h:p:=by first|rfl|omega|(simp only[spI];omega)|(simp only[spI,kG,kO,List.length_nil];omega)|(simp[spI];done)|fail):p:=h
noncomputable abbrev ctS (n:Nm) (t:List Int) (k:Nat) (o:List Int) (sp:Option Nat) (bef:Int):St:=⟨tmp 71 [(2,.ptr 0 0),(5,.map 1),(6,fB 2 1 o),(7,i64 (spI sp)),(8,i64 bef),(19,aF t),(20,i64 (t.length:Int)),(21,i64 (k:Int))],⟨3,(0,.cells (nmC n) true)::(1,.map (db (bS n n.dc)))::ownM 2 o⟩⟩
theorem Gr {n n':Nm}{t:List Int}(hN:eI n n') (ht:t.length<=100000):Pu Tryz.prog 149 [nmD n,aF t] (aF (ft (aJ n'.cl) (jn n') t)):=by
 have hus:=tB hN;have hcs:=nV hN.ok hN.g;have hcl0:=hN.ok.cl;have huc:fG n'.cl=n'.cl:=if_pos hN.g.cls;generalize hR:ft (aJ n'.cl) (jn n') t=R;refine Pu.of_v aA T0 Tryz.func149 rfl rfl (aD (aQ n) (aD (aC _) rfl)) ?_;repeat' ((conv=>whnf);first|refine cm.lab ?_|refine cm.scope ?_|exact kQ|(refine bk ?_ ?_<;>intro _<;>try(exfalso;omega))|refine stq ?_|refine cp hus ?_|refine Cll.pk hcs ?_|fail)
 all_goals(conv=>whnf)
 refine aH.by4 aA T0 (ctS n' t) (CTx (aJ n'.cl) (jn n') R t) t.length [] none 0 (hR▸CTx.start t) ?_ ?_
 ·exact lq [(0,0),(1,7)] []
 intro k o sp bef hI;have hI1:=hI.1;have hI2:=hI.2.1;by_cases hk:k<t.length
 ·have hcl:=Aq (l:=n'.cl) (c:=t[k]) hcl0;rw[huc] at hcl;cases o with
  | nil=>
   have hsp:sp=none:=by
    cases sp with
    | none=>rfl
    | some p=>exact absurd hI.2.2.2.1 si
   subst hsp;have hs0:spI none = -1:=rfl;have ha:=hI.add hk (λp h=>by cases h);by_cases hc:aJ n'.cl t[k]=0
   ·rw[if_pos hc] at ha;repeat' ((conv=>whnf);first|exact kQ|(refine bk ?_ ?_<;>intro _<;>try(exfalso;omega))|refine stq ?_|refine cp hcl ?_|refine Chk.growX 8 1 rfl rfl om om (by first|(simp;done)|exact kD rfl) ?_|fail)
    all_goals(conv=>whnf)
    all_goals first
     | contradiction
     | (refine⟨k+1,_,_,_,ha,by omega,?_⟩
        first|(exact Lf.of2 [(0,0),(1,1),(2,34)] [] enA (.cons rfl rfl rfl rbA (.cons rfl rfl rfl rbA (Bxs.ownM si rfl rfl rfl rfl))) rfl rfl))
   ·rw[if_neg hc] at ha;repeat' ((conv=>whnf);first|exact kQ|(refine bk ?_ ?_<;>intro _<;>try(exfalso;omega))|refine stq ?_|refine cp hcl ?_|refine Chk.growX 8 1 rfl rfl om om (by first|(simp;done)|exact kD rfl) ?_|fail)
    all_goals(conv=>whnf)
    all_goals first
     | contradiction
     | (refine⟨k+1,_,_,_,ha,by omega,?_⟩
        first|(exact Lf.of2 [(0,0),(1,1),(2,31)] [] enA (.cons rfl rfl rfl rbA (.cons rfl rfl rfl rbA (Bxs.ownM si rfl rfl rfl rfl))) rfl rfl))
  | cons x xs=>
   have hx:(x::xs).length=xs.length+1:=rfl;have hs0:spI none = -1:=rfl;cases sp with
   | none=>
    have ha:=hI.add hk (λp h=>by cases h);by_cases hc:aJ n'.cl t[k]=0
    ·rw[if_pos hc] at ha;repeat' ((conv=>whnf);first|exact kQ|(refine bk ?_ ?_<;>intro _<;>try(exfalso;omega))|refine stq ?_|refine cp hcl ?_|refine Chk.growX 8 1 rfl rfl om om (by first|(simp;done)|exact kD rfl) ?_|fail)
     all_goals(conv=>whnf)
     all_goals first
      | contradiction
      | (refine⟨k+1,_,_,_,ha,by omega,?_⟩
         first|(exact Lf.of2 [(0,0),(1,1),(2,37)] [] enA (.cons rfl rfl rfl rbA (.cons rfl rfl rfl rbA (Bxs.ownM si rfl rfl rfl (sC (x::xs) t[k])))) rfl rfl))
    ·rw[if_neg hc] at ha;repeat' ((conv=>whnf);first|exact kQ|(refine bk ?_ ?_<;>intro _<;>try(exfalso;omega))|refine stq ?_|refine cp hcl ?_|refine Chk.growX 8 1 rfl rfl om om (by first|(simp;done)|exact kD rfl) ?_|fail)
     all_goals(conv=>whnf)
     all_goals first
      | contradiction
      | (refine⟨k+1,_,_,_,ha,by omega,?_⟩
         first|(exact Lf.of2 [(0,0),(1,1),(2,34)] [] enA (.cons rfl rfl rfl rbA (.cons rfl rfl rfl rbA (Bxs.ownM si rfl rfl rfl (sC (x::xs) t[k])))) rfl rfl))
   | some p=>
    have hp:p<(x::xs).length:=hI.2.2.2.1;have hs1:spI (some p)=(p:Int):=rfl;by_cases hm:may (x::xs) (some p) bef t[k] (aJ n'.cl)
    ·have hm2:¬(p+1<(x::xs).length∧aJ n'.cl t[k]<=bef):=hm;have eg:(x::xs).getD p 0=(x::xs)[0+p]'(by omega):=by rw[gDe hp];simp
     have hjc:=join_c (n:=n') (a:=(x::xs)[0+p]'(by omega)) (b:=t[k]);cases hj:jn n' ((x::xs)[0+p]'(by omega)) t[k] with
     | some w=>
      have ha:=hI.join hk hm (w:=w) (by rw[eg];exact hj);unfold jnD at hjc;rw[hj] at hjc;simp only at hjc;repeat' ((conv=>whnf);first|refine Put.oneO (by rw[List.length_map];omega) ?_|refine Get.mapO om ?_|refine cA.at p (by simp only[spI]) om ?_|exact kQ|(refine bk ?_ ?_<;>intro _<;>try(exfalso;omega))|refine stq ?_|refine cp hcl ?_|refine Cll.emb hjc [(0,1)] [] (.tup [i64 w,boo true]) [(1,.map (db (bS n' n'.dc)))] [(0,.cells (nmC n') true),(2,.cells ((x::xs).map i64) false)] rfl cZ bxA rdA bxA reA ?_|fail)
      all_goals(conv=>whnf)
      all_goals(refine⟨k+1,_,_,_,ha,by omega,?_⟩;exact Lf.of2 [(0,0),(1,1),(2,2)] [] enA (.cons rfl rfl rfl rbA (.cons rfl rfl rfl rbA (Bxs.ownM (by intro e;have:=congrArg List.length e;rw[List.length_set] at this;simp at this) rfl rfl rfl (by rw[Nat.zero_add];exact(List.map_set ..).symm)))) rfl rfl)
     | none=>
      unfold jnD at hjc;rw[hj] at hjc;simp only at hjc;have ha:=hI.add hk (λp' h _=>by injection h with h;subst h;rw[eg];exact hj);by_cases hc:aJ n'.cl t[k]=0
      ·rw[if_pos hc] at ha;repeat' ((conv=>whnf);first|refine Get.mapO om ?_|refine cA.at p (by simp only[spI]) om ?_|exact kQ|(refine bk ?_ ?_<;>intro _<;>try(exfalso;omega))|refine stq ?_|refine cp hcl ?_|refine Cll.emb hjc [(0,1)] [] (.tup [i64 0,boo false]) [(1,.map (db (bS n' n'.dc)))] [(0,.cells (nmC n') true),(2,.cells ((x::xs).map i64) false)] rfl cZ bxA rdA bxA reA ?_|refine Chk.growX 8 1 rfl rfl om om (by first|(simp;done)|exact kD rfl) ?_|fail)
       all_goals(conv=>whnf)
       all_goals first
        | contradiction
        | (refine⟨k+1,_,_,_,ha,by omega,?_⟩
           first|(exact Lf.of2 [(0,0),(1,1),(2,52)] [] enA (.cons rfl rfl rfl rbA (.cons rfl rfl rfl rbA (Bxs.ownM si rfl rfl rfl (sC (x::xs) t[k])))) rfl rfl)|(exact Lf.of2 [(0,0),(1,1),(2,49)] [] enA (.cons rfl rfl rfl rbA (.cons rfl rfl rfl rbA (Bxs.ownM si rfl rfl rfl (sC (x::xs) t[k])))) rfl rfl))
      ·rw[if_neg hc] at ha;repeat' ((conv=>whnf);first|refine Get.mapO om ?_|refine cA.at p (by simp only[spI]) om ?_|exact kQ|(refine bk ?_ ?_<;>intro _<;>try(exfalso;omega))|refine stq ?_|refine cp hcl ?_|refine Cll.emb hjc [(0,1)] [] (.tup [i64 0,boo false]) [(1,.map (db (bS n' n'.dc)))] [(0,.cells (nmC n') true),(2,.cells ((x::xs).map i64) false)] rfl cZ bxA rdA bxA reA ?_|refine Chk.growX 8 1 rfl rfl om om (by first|(simp;done)|exact kD rfl) ?_|fail)
       all_goals(conv=>whnf)
       all_goals first
        | contradiction
        | (refine⟨k+1,_,_,_,ha,by omega,?_⟩
           first|(exact Lf.of2 [(0,0),(1,1),(2,49)] [] enA (.cons rfl rfl rfl rbA (.cons rfl rfl rfl rbA (Bxs.ownM si rfl rfl rfl (sC (x::xs) t[k])))) rfl rfl)|(exact Lf.of2 [(0,0),(1,1),(2,46)] [] enA (.cons rfl rfl rfl rbA (.cons rfl rfl rfl rbA (Bxs.ownM si rfl rfl rfl (sC (x::xs) t[k])))) rfl rfl))
    ·have hm2:p+1<(x::xs).length∧aJ n'.cl t[k]<=bef:=Classical.not_not.1 hm;have ha:=hI.add hk (λp' h h2=>by injection h with h;subst h;exact absurd h2 hm);by_cases hc:aJ n'.cl t[k]=0
     ·rw[if_pos hc] at ha;repeat' ((conv=>whnf);first|exact kQ|(refine bk ?_ ?_<;>intro _<;>try(exfalso;omega))|refine stq ?_|refine cp hcl ?_|refine Chk.growX 8 1 rfl rfl om om (by first|(simp;done)|exact kD rfl) ?_|fail)
      all_goals(conv=>whnf)
      all_goals first
       | contradiction
       | (refine⟨k+1,_,_,_,ha,by omega,?_⟩
          first|(exact Lf.of2 [(0,0),(1,1),(2,39)] [] enA (.cons rfl rfl rfl rbA (.cons rfl rfl rfl rbA (Bxs.ownM si rfl rfl rfl (sC (x::xs) t[k])))) rfl rfl))
     ·rw[if_neg hc] at ha;repeat' ((conv=>whnf);first|exact kQ|(refine bk ?_ ?_<;>intro _<;>try(exfalso;omega))|refine stq ?_|refine cp hcl ?_|refine Chk.growX 8 1 rfl rfl om om (by first|(simp;done)|exact kD rfl) ?_|fail)
      all_goals(conv=>whnf)
      all_goals first
       | contradiction
       | (refine⟨k+1,_,_,_,ha,by omega,?_⟩
          first|(exact Lf.of2 [(0,0),(1,1),(2,36)] [] enA (.cons rfl rfl rfl rbA (.cons rfl rfl rfl rbA (Bxs.ownM si rfl rfl rfl (sC (x::xs) t[k])))) rfl rfl))
 ·obtain rfl:k=t.length:=by omega
  have hd:=hI.done;cases o with
  | nil=>
   repeat' ((conv=>whnf);first|exact kQ|(refine bk ?_ ?_<;>intro _<;>try(exfalso;omega))|refine stq ?_|fail)
   all_goals(conv=>whnf)
   rw[hd];exact⟨.nil⟩
  | cons x xs=>
   repeat' ((conv=>whnf);first|exact kQ|(refine bk ?_ ?_<;>intro _<;>try(exfalso;omega))|refine stq ?_|fail)
   all_goals(conv=>whnf)
   rw[hd];exact aE.frz1 rfl rfl rfl (λ_=>rfl) rfl
end
end Go.Proofs.YtihggclfifimoaaGreatDoor
