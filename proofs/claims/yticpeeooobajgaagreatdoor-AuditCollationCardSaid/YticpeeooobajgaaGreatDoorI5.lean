/-
  Contracts over data: lists of numbers compared.
-/
import Derived.Test.YticpeeooobajgaaGreatDoorNK
import Derived.Test.YticpeeooobajgaaGreatDoorNX
import Derived.Test.YticpeeooobajgaaGreatDoorI2
set_option linter.unusedSectionVars false
namespace Go.Proofs.YticpeeooobajgaaGreatDoor
section
open Go Go.Am Classical
set_option maxRecDepth 100000
set_option linter.unusedVariables false
theorem xI5.rdX {p:Prop}(h:p:=by first|exact Rd.same (aG _)|fail):p:=h
open xI5
def bq:List Int->List Int->Int
 | [],[]=>0
 | [],_::_=>-1
 | _::_,[]=>1
 | x::a,y::b=>if x=y then bq a b else dF x y
theorem sB {a b:List Int}{k:Nat}(ha:k<a.length) (hb:k<b.length):bq (a.drop k) (b.drop k)=if a[k]=b[k] then bq (a.drop (k+1)) (b.drop (k+1)) else dF a[k] b[k]:=by
 rw[kK ha,kK hb];rfl
theorem pU {a b:List Int}{k:Nat}(h:¬k<a.length∨¬k<b.length) (hk:k<=a.length∧k<=b.length):bq (a.drop k) (b.drop k)=dF (a.length:Int) (b.length:Int):=by
 by_cases ha:k<a.length
 ·have hb:¬k<b.length:=by omega
  rw[kK ha,List.drop_of_length_le (l:=b) om];unfold dF;rw[if_neg om,if_pos om];rfl
 ·rw[List.drop_of_length_le (l:=a) om];by_cases hb:k<b.length
  ·rw[kK hb];unfold dF;rw[if_pos om];rfl
  ·rw[List.drop_of_length_le (l:=b) om];unfold dF;rw[if_neg om,if_neg om];rfl
theorem yo (x:Int):dF x x=0:=by unfold dF;rw[if_neg om,if_neg om]
theorem fh:∀ {a b:List Int},bq a b=0↔a=b
 | [],[]=>by simp[bq]
 | [],_::_=>by simp[bq]
 | _::_,[]=>by simp[bq]
 | x::a,y::b=>by
  simp only[bq];by_cases h:x=y
  ·rw[if_pos h,fh,h];simp
  ·rw[if_neg h,j2];simp[h]
theorem nS {a b:List Int}(ha:a.length<=1000000) (hb:b.length<=1000000):Pu Tryz.prog 72 [aE a,aE b] (i64 (bq a b)):=by
 refine pv Tryz.func72 ?_;rcases Nat.lt_or_ge b.length a.length with hab|hab
 all_goals
  repeat' ((conv=>whnf);first|exact kQ|(refine bk ?_ ?_<;>intro _<;>try(exfalso;omega))|refine stq ?_)
  refine aH.by aA T0 (λk:Nat=>⟨tmp 38 [(0,aE a),(1,aE b),(10,i64 (min a.length b.length:Nat)),(11,i64 (k:Int))],⟨0,[]⟩⟩) (λk=>k<=a.length∧k<=b.length∧bq a b=bq (a.drop k) (b.drop k)) (λk=>a.length-k) 0 ⟨by omega,by omega,rfl⟩ ?_ ?_
  ·exact lq0
  intro k ⟨h1,h2,h3⟩;by_cases hk:k<a.length∧k<b.length
  ·rw[sB hk.1 hk.2] at h3;have hc:=cq (x:=a[k]'hk.1) (y:=b[k]'hk.2);repeat' ((conv=>whnf);first|exact kQ|(refine bk ?_ ?_<;>intro _<;>try(exfalso;omega))|refine stq ?_|refine cp hc ?_|refine ab.by (id:=4) aA T0 [0,0,3,7,0,0,48,112,255] (by kernel_rfl) ?_|refine ab.by (id:=5) aA T0 [0,0,3,7,0,0,48,112,255,511] (by kernel_rfl) ?_|fail)
   all_goals(conv=>whnf)
   ·have e:a[k]'hk.1=b[k]'hk.2:=by assumption
    rw[if_pos e] at h3;refine⟨k+1,⟨by omega,by omega,h3⟩,by omega,?_⟩;exact lq0
   ·have e:¬a[k]'hk.1=b[k]'hk.2:=by assumption
    rw[if_neg e] at h3;exact aI.int h3.symm
  ·rw[pU om ⟨h1,h2⟩] at h3;have hc:=cq (x:=(a.length:Int)) (y:=(b.length:Int));repeat' ((conv=>whnf);first|exact kQ|(refine bk ?_ ?_<;>intro _<;>try(exfalso;omega))|refine stq ?_|refine cp hc ?_|fail)
   all_goals(conv=>whnf)
   exact aI.int h3.symm
theorem jE {a b:List Int}(ha:a.length<=1000000) (hb:b.length<=1000000):Pu Tryz.prog 21 [aE a,aE b] (i64 (bq a b)):=by
 refine pv Tryz.func21 ?_;repeat' ((conv=>whnf);first|exact kQ|(refine bk ?_ ?_<;>intro _<;>try(exfalso;omega))|refine stq ?_)
 refine aH.by aA T0 (λk:Nat=>⟨tmp 36 [(0,aE a),(1,aE b),(9,aE a),(10,i64 a.length),(11,i64 (k:Int))],⟨0,[]⟩⟩) (λk=>k<=a.length∧k<=b.length∧bq a b=bq (a.drop k) (b.drop k)) (λk=>a.length-k) 0 ⟨by omega,by omega,rfl⟩ ?_ ?_
 ·exact lq0
 intro k ⟨h1,h2,h3⟩;by_cases hk:k<a.length∧k<b.length
 ·rw[sB hk.1 hk.2] at h3;have hc:=cq (x:=a[k]'hk.1) (y:=b[k]'hk.2);repeat' ((conv=>whnf);first|exact kQ|(refine bk ?_ ?_<;>intro _<;>try(exfalso;omega))|refine stq ?_|refine cp hc ?_|fail)
  all_goals(conv=>whnf)
  ·have e:dF (a[k]'hk.1) (b[k]'hk.2)=0:=by assumption
   rw[if_pos (j2.1 e)] at h3;refine⟨k+1,⟨by omega,by omega,h3⟩,by omega,?_⟩;exact lq0
  ·have e:¬dF (a[k]'hk.1) (b[k]'hk.2)=0:=by assumption
   rw[if_neg λh=>e (j2.2 h)] at h3;exact aI.int h3.symm
 ·rw[pU om ⟨h1,h2⟩] at h3;unfold dF at h3;repeat' ((conv=>whnf);first|exact kQ|(refine bk ?_ ?_<;>intro _<;>try(exfalso;omega))|refine stq ?_|fail)
  all_goals(conv=>whnf)
  all_goals exact aI.int (by rw[h3];(repeat' split)<;>omega)
theorem xz {a b:List Int}(ha:a.length<=1000000) (hb:b.length<=1000000):Pu Tryz.prog 25 [aE a,aE b] (boo (decide (a=b))):=by
 refine pv Tryz.func25 ?_;by_cases hl:a.length=b.length
 ·repeat' ((conv=>whnf);first|exact kQ|(refine bk ?_ ?_<;>intro _<;>try(exfalso;omega))|refine stq ?_)
  refine aH.by aA T0 (λk:Nat=>⟨tmp 26 [(0,aE a),(1,aE b),(12,i64 a.length),(13,i64 (k:Int))],⟨0,[]⟩⟩) (λk=>k<=a.length∧bq a b=bq (a.drop k) (b.drop k)) (λk=>a.length-k) 0 ⟨by omega,rfl⟩ ?_ ?_
  ·exact lq0
  intro k ⟨h1,h3⟩;by_cases hk:k<a.length
  ·rw[sB hk om] at h3;repeat' ((conv=>whnf);first|exact kQ|(refine bk ?_ ?_<;>intro _<;>try(exfalso;omega))|refine stq ?_|refine ab.by (id:=6) aA T0 [0,0,3,7,0,0,48,112,255] (by kernel_rfl) ?_|fail)
   all_goals(conv=>whnf)
   ·have e:a[k]'hk=b[k]'(by omega):=by assumption
    rw[if_pos e] at h3;refine⟨k+1,⟨by omega,h3⟩,by omega,?_⟩;exact lq0
   ·have e:¬a[k]'hk=b[k]'(by omega):=by assumption
    rw[if_neg e] at h3;exact aI.no λh=>by rw[fh.2 h] at h3;exact e (j2.1 h3.symm)
  ·rw[pU om om,hl,yo] at h3;repeat' ((conv=>whnf);first|exact kQ|(refine bk ?_ ?_<;>intro _<;>try(exfalso;omega))|refine stq ?_|fail)
   all_goals(conv=>whnf)
   exact aI.yes (fh.1 h3)
 ·repeat' ((conv=>whnf);first|exact kQ|(refine bk ?_ ?_<;>intro _<;>try(exfalso;omega))|refine stq ?_|fail)
  all_goals(conv=>whnf)
  exact aI.no λh=>hl (by rw[h])
end
section
open Go Go.Am Classical
set_option maxRecDepth 100000
set_option linter.unusedVariables false
theorem xI6.rdX {p:Prop}(h:p:=by first|exact Rd.same (bN _)|fail):p:=h
theorem xI6.rbX {p:Prop}(h:p:=by first|exact Rb.cells (Rds.same (dw _)) rfl|exact Rb.map (Res.eqs hst (Dt _))|fail):p:=h
open xI6
theorem Dt (l:List Str):∀ p∈l.map (λs=>(D.str s,boo true)),aL p.1=true∧aL p.2=true:=λp hp=>by
 obtain⟨s,_,rfl⟩:=List.mem_map.1 hp;exact⟨rfl,rfl⟩
theorem yp {s:Str}(hs:s.length<=9223372036854775807):Pu Tryz.prog 269 [.str s] (boo (decide (s≠[]∧s.length<=32∧allW s))):=by
 refine pv Tryz.func269 ?_;repeat' ((conv=>whnf);first|exact kQ|(refine bk ?_ ?_<;>intro _<;>try(exfalso;omega))|refine stq ?_)
 refine aH.by aA T0 (λk:Nat=>⟨tmp 48 [(0,.str s),(6,i64 s.length),(7,i64 (k:Int))],⟨0,[]⟩⟩) (λk=>k<=s.length∧∀ i (h:i<s.length),i<k->wb (s[i].toNat:Int)) (λk=>s.length-k) 0 ⟨by omega,λ_ _ h=>by omega⟩ ?_ ?_
 ·exact lq0
 intro k ⟨h1,h2⟩;repeat' ((conv=>whnf);first|exact kQ|(refine bk ?_ ?_<;>intro _<;>try(exfalso;omega))|refine stq ?_)
 all_goals(conv=>whnf)
 all_goals first
  | exact aI.no (λhc=>absurd (hc.2.2 k om) (by unfold wb;omega))
  | exact aI.no (λhc=>hc.1 asm)
  | exact aI.no (λhc=>by omega)
  | exact aI.yes ⟨by assumption,by omega,ki om h2⟩
  | (refine⟨k+1,⟨by omega,bv om h2 (by unfold wb;omega)⟩,by omega,?_⟩
     exact lq0)
noncomputable def nmE (g:Grp):Int:=if g.nm≠[]∧g.nm.length<=32∧allW g.nm then 0 else 6
noncomputable def twE:List Str->List Grp->Int
 | _,[]=>0
 | seen,g::l=>if g.nm∈seen then 5 else twE (seen++[g.nm]) l
noncomputable def rgE (b:Int) (g:Grp):Int:=if g.lo<1∨g.hi<g.lo∨b<=g.hi then 1 else 0
noncomputable def orE:Option Int->List Grp->Int
 | _,[]=>0
 | none,g::l=>orE (some g.hi) l
 | some p,g::l=>if g.lo=p+1 then orE (some g.hi) l else 4
noncomputable def grE (c:Col):Int:=if fe nmE c.gs=0 then(if twE [] c.gs=0 then(if fe (rgE c.b) c.gs=0 then orE none c.gs else fe (rgE c.b) c.gs) else twE [] c.gs) else fe nmE c.gs
theorem AV {gs:List Grp}{k:Nat}(h:k<gs.length):(gs.take (k+1)).map (·.nm)=(gs.take k).map (·.nm)++[gs[k].nm]:=by rw[ao h,List.map_append];rfl
def prv (gs:List Grp) (k:Nat):Option Int:=if h:0<k∧k<=gs.length then some (gs[k-1]'(by omega)).hi else none
theorem tO {gs:List Grp}{k:Nat}(h:k<gs.length):prv gs (k+1)=some gs[k].hi:=by unfold prv;rw[dif_pos ⟨by omega,by omega⟩];rfl
set_option maxHeartbeats 4000000 in
theorem qM {c:Col}(hb:c.b<=65502) (hl:c.gs.length<=100000) (hn:∀ g∈c.gs,g.nm.length<=9223372036854775807):Pu Tryz.prog 156 [qL c] (i64 (grE c)):=by
 refine Pu.of_v aA T0 Tryz.func156 rfl rfl (aQ (c7 c) rfl) ?_;have hX:aJ (iW c)=true:=dw c;unfold grE;repeat' ((conv=>whnf);first|exact kQ|(refine bk ?_ ?_<;>intro _<;>try(exfalso;omega))|refine stq ?_|fail)
 refine aH.by aA T0 (λk:Nat=>⟨tmp 89 [(1,.ptr 0 0),(13,pE c.gs),(14,i64 c.gs.length),(15,i64 (k:Int))],⟨1,[(0,.cells (iW c) true)]⟩⟩) (λk=>k<=c.gs.length∧fe nmE c.gs=fe nmE (c.gs.drop k)) (λk=>c.gs.length-k) 0 ⟨by omega,rfl⟩ ?_ ?_
 ·exact lq [(0,0)] []
 intro k ⟨h1,h2⟩;by_cases hk:k<c.gs.length
 ·rw[uG hk] at h2;have hnm:=yp (hn c.gs[k] (kM hk));repeat' ((conv=>whnf);first|exact kQ|(refine bk ?_ ?_<;>intro _<;>try(exfalso;omega))|refine stq ?_|refine cd hnm (λ_=>?_) (λ_=>?_)|fail)
  all_goals(conv=>whnf)
  ·have e1:nmE c.gs[k]=0:=by unfold nmE;rw[if_pos asm]
   rw[if_pos e1] at h2;refine⟨k+1,⟨by omega,h2⟩,by omega,?_⟩;exact lq [(0,0)] []
  ·have e1:nmE c.gs[k]=6:=by unfold nmE;rw[if_neg asm]
   rw[e1,if_neg om] at h2;exact aI.int (by rw[h2,if_neg om])
 rw[pL hk] at h2;rw[if_pos h2];repeat' ((conv=>whnf);first|exact kQ|(refine bk ?_ ?_<;>intro _<;>try(exfalso;omega))|refine stq ?_|fail)
 refine aH.by aA T0 (λk:Nat=>⟨tmp 89 [(1,.ptr 0 0),(5,.map 1),(26,pE c.gs),(27,i64 c.gs.length),(28,i64 (k:Int))],⟨2,[(0,.cells (iW c) true),(1,.map (((c.gs.take k).map (·.nm)).map λs=>(D.str s,boo true)))]⟩⟩) (λk=>k<=c.gs.length∧twE [] c.gs=twE ((c.gs.take k).map (·.nm)) (c.gs.drop k)) (λk=>c.gs.length-k) 0 ⟨by omega,rfl⟩ ?_ ?_
 ·exact lq [(0,0),(1,2)] []
 intro k ⟨h1,h2⟩;by_cases hk:k<c.gs.length
 ·rw[kK hk,twE] at h2;have hna:=AV hk
  have hst:((c.gs.take k).map (·.nm)).map (λs=>(D.str s,boo true))++[(D.str c.gs[k].nm,boo true)]=((c.gs.take (k+1)).map (·.nm)).map (λs=>(D.str s,boo true)):=by
   rw[hna];simp only[List.map_append,List.map_cons,List.map_nil]
  repeat' ((conv=>whnf);first|exact kQ|(refine bk ?_ ?_<;>intro _<;>try(exfalso;omega))|refine stq ?_|refine eV.set (λi h=>?_) (λh=>?_)|fail)
  all_goals(conv=>whnf)
  all_goals first
   | (exfalso;contradiction)
   | (rw[if_pos asm] at h2
      exact aI.int (by rw[h2,if_neg om]))
   | (rw[if_neg asm,<-hna] at h2
      refine⟨k+1,⟨by omega,h2⟩,by omega,?_⟩
      exact lq [(0,0),(1,1)] [])
 rw[List.drop_of_length_le om,twE] at h2;rw[if_pos h2];repeat' ((conv=>whnf);first|exact kQ|(refine bk ?_ ?_<;>intro _<;>try(exfalso;omega))|refine stq ?_|fail)
 refine aH.by aA T0 (λk:Nat=>⟨tmp 89 [(1,.ptr 0 0),(41,pE c.gs),(42,i64 c.gs.length),(43,i64 (k:Int))],⟨1,[(0,.cells (iW c) true)]⟩⟩) (λk=>k<=c.gs.length∧fe (rgE c.b) c.gs=fe (rgE c.b) (c.gs.drop k)) (λk=>c.gs.length-k) 0 ⟨by omega,rfl⟩ ?_ ?_
 ·exact lq [(0,0)] []
 intro k ⟨h1,h2⟩;by_cases hk:k<c.gs.length
 ·rw[uG hk] at h2;by_cases hr:c.gs[k].lo<1∨c.gs[k].hi<c.gs[k].lo∨c.b<=c.gs[k].hi
  ·have e1:rgE c.b c.gs[k]=1:=by unfold rgE;rw[if_pos hr]
   rw[e1,if_neg om] at h2;repeat' ((conv=>whnf);first|exact kQ|(refine bk ?_ ?_<;>intro _<;>try(exfalso;omega))|refine stq ?_|fail)
   all_goals(conv=>whnf)
   all_goals exact aI.int (by rw[h2,if_neg om])
  ·have e1:rgE c.b c.gs[k]=0:=by unfold rgE;rw[if_neg hr]
   rw[if_pos e1] at h2;repeat' ((conv=>whnf);first|exact kQ|(refine bk ?_ ?_<;>intro _<;>try(exfalso;omega))|refine stq ?_|fail)
   all_goals(conv=>whnf)
   all_goals
    refine⟨k+1,⟨by omega,h2⟩,by omega,?_⟩;exact lq [(0,0)] []
 rw[pL hk] at h2;have hz:=r4 h2
 have hhi:∀ k (h:k<c.gs.length),c.gs[k].hi<c.b∧1<=c.gs[k].hi:=λk h=>by
  have:=hz _ (kM h)
  unfold rgE at this;split at this
  ·omega
  ·omega
 rw[if_pos h2];clear hz;repeat' ((conv=>whnf);first|exact kQ|(refine bk ?_ ?_<;>intro _<;>try(exfalso;omega))|refine stq ?_|fail)
 refine aH.by aA T0 (λk:Nat=>⟨tmp 89 [(1,.ptr 0 0),(66,pE c.gs),(67,i64 c.gs.length),(68,i64 (k:Int))],⟨1,[(0,.cells (iW c) true)]⟩⟩) (λk=>k<=c.gs.length∧orE none c.gs=orE (prv c.gs k) (c.gs.drop k)) (λk=>c.gs.length-k) 0 ⟨by omega,rfl⟩ ?_ ?_
 ·exact lq [(0,0)] []
 intro k ⟨h1,h2⟩;by_cases hk:k<c.gs.length
 ·have hps:=tO hk;rw[kK hk] at h2;cases k with
  | zero=>
   have e0:prv c.gs 0=none:=by unfold prv;rw[dif_neg om]
   rw[e0,orE,<-hps] at h2;repeat' ((conv=>whnf);first|exact kQ|(refine bk ?_ ?_<;>intro _<;>try(exfalso;omega))|refine stq ?_|refine ab.by (id:=24) aA T0 [0,1,3,7,15,7,39,7,135,487,999,2023,4071,8191,16383] (by kernel_rfl) ?_|fail)
   all_goals(conv=>whnf)
   all_goals
    refine⟨1,⟨by omega,h2⟩,by omega,?_⟩;exact lq [(0,0)] []
  | succ k=>
   have hb1:=hhi k om;rw[tO (by omega:k<c.gs.length),orE,<-hps] at h2;repeat' ((conv=>whnf);first|exact kQ|(refine bk ?_ ?_<;>intro _<;>try(exfalso;omega))|refine stq ?_|refine ab.by (id:=24) aA T0 [0,1,3,7,15,7,39,7,135,487,999,2023,4071,8191,16383] (by kernel_rfl) ?_|refine Idx.atS (by intro _;rfl) k om om ?_|fail)
   all_goals(conv=>whnf)
   ·have e1:c.gs[k+1].lo=c.gs[k].hi+1:=by assumption
    rw[if_pos e1] at h2;refine⟨k+1+1,⟨by omega,h2⟩,by omega,?_⟩;exact lq [(0,0)] []
   ·have e1:¬c.gs[k+1].lo=c.gs[k].hi+1:=by assumption
    rw[if_neg e1] at h2;exact aI.int h2.symm
 rw[List.drop_of_length_le om,orE] at h2;repeat' ((conv=>whnf);first|exact kQ|(refine bk ?_ ?_<;>intro _<;>try(exfalso;omega))|refine stq ?_)
 all_goals(conv=>whnf)
 exact aI.int h2.symm
end
section
open Go Go.Am Classical
set_option maxRecDepth 100000
set_option linter.unusedVariables false
theorem xI7.rbX {p:Prop}(h:p:=by first|exact Rb.cells (Rds.eqs (pA h) rfl) rfl|exact Rb.cells (Rds.eqs hce rfl) rfl|fail):p:=h
open xI7
abbrev Au (l:List Int):List D:=[i64 l.length,i64 (l.getD 0 0),i64 (l.getD 1 0),i64 (l.getD 2 0),i64 (l.getD 3 0),i64 (l.getD 4 0),i64 (l.getD 5 0),i64 (l.getD 6 0),i64 (l.getD 7 0)]
abbrev mh (l:List Int):D:=.agg (Au l)
theorem Cf {a b:List Int}(ha:a.length<=8) (hb:b.length<=8) (hl:(a.length:Int)=b.length) (h0:a.getD 0 0=b.getD 0 0) (h1:a.getD 1 0=b.getD 1 0) (h2:a.getD 2 0=b.getD 2 0) (h3:a.getD 3 0=b.getD 3 0) (h4:a.getD 4 0=b.getD 4 0) (h5:a.getD 5 0=b.getD 5 0) (h6:a.getD 6 0=b.getD 6 0) (h7:a.getD 7 0=b.getD 7 0):a=b:=by
 have hl':a.length=b.length:=by omega
 refine List.ext_getElem hl' λi hi hi'=>?_
 rw[<-gDe (d:=0) hi,<-gDe (d:=0) hi']
 have:i=0∨i=1∨i=2∨i=3∨i=4∨i=5∨i=6∨i=7:=by omega
 rcases this with rfl|rfl|rfl|rfl|rfl|rfl|rfl|rfl<;>assumption
theorem yA {h:aB}{a b:List Int}(ha:a.length<=8) (hb:b.length<=8):bB h (mh a) (mh b)=some (decide (a=b)):=by
 simp only[bB,fU,ba,cv,if_true];congr 1;by_cases e:a=b
 ·subst e;simp
 ·rw[decide_eq_false e];rw[Bool.eq_false_iff];intro hc;simp only[kC,beq_iff_eq,and_true] at hc;obtain⟨h0,h1,h2,h3,h4,h5,h6,h7,h8⟩:=hc;exact e (Cf ha hb h0 h1 h2 h3 h4 h5 h6 h7 h8)
def lkE {α:Type}(c:List Int):List (List Int×α)->Nat->Option (Nat×α)
 | [],_=>none
 | (k,x)::m,i=>if c=k then some (i,x) else lkE c m (i+1)
theorem xE {α:Type}{f:α->D}{h:aB}{c:List Int}(hc:c.length<=8):∀ {m:List (List Int×α)}{i:Nat},(∀ p∈m,p.1.length<=8)->bn h (mh c) (m.map λp=>(mh p.1,f p.2)) i=some ((lkE c m i).map λq=>(q.1,f q.2))
 | [],i,_=>rfl
 | (k,x)::m,i,hm=>by
  simp only[List.map_cons,bn,yA hc (hm (k,x) si),lkE];by_cases e:c=k
  ·rw[decide_eq_true e,if_pos e];rfl
  ·rw[decide_eq_false e,if_neg e];exact xE hc λp hp=>hm p (List.mem_cons_of_mem _ hp)
theorem eV.num9 {α:Type}{f:α->D}{h:aB}{c:List Int}{m:List (List Int×α)}{K:Option (Nat×D)->Prop}(hc:c.length<=8) (hm:∀ p∈m,p.1.length<=8) (yes:∀ i x,lkE c m 0=some (i,x)->K (some (i,f x))) (no:lkE c m 0=none->K none):eV h (mh c) (m.map λp=>(mh p.1,f p.2)) K:=by
 refine⟨_,xE hc hm,?_⟩;cases e:lkE c m 0 with
 | none=>exact no e
 | some q=>exact yes q.1 q.2 e
theorem Ai {α:Type}{c:List Int}{x:α}{j:Nat}:∀ {m:List (List Int×α)}{i:Nat},lkE c m i=some (j,x)->(c,x)∈m
 | [],i,h=>by simp[lkE] at h
 | (k,y)::m,i,h=>by
  simp only[lkE] at h;split at h
  ·rename_i e;injection h with h;injection h with _ h
   subst h;subst e;simp
  ·exact List.mem_cons_of_mem _ (Ai h)
def rc {α:Type}(c:List Int) (v:α) (m:List (List Int×α)):List (List Int×α):=match lkE c m 0 with|some (i,_)=>m.set i (c,v)|none=>m++[(c,v)]
theorem AA {α:Type}{c:List Int}{v:α}{m:List (List Int×α)}{p:List Int×α}(h:p∈rc c v m):p∈m∨p=(c,v):=by
 unfold rc at h;split at h
 ·rcases List.mem_or_eq_of_mem_set h with h|h
  ·exact .inl h
  ·exact .inr h
 ·rcases List.mem_append.1 h with h|h
  ·exact .inl h
  ·exact .inr (List.mem_singleton.1 h)
abbrev d5 (m:List (List Int×List Elm)):List (D×D):=m.map λp=>(mh p.1,elms p.2)
theorem vU (m:List (List Int×List Elm)):∀ p∈d5 m,aL p.1=true∧aL p.2=true:=λp hp=>by
 obtain⟨q,_,rfl⟩:=List.mem_map.1 hp;exact⟨rfl,cS _⟩
theorem take8 {l:List Int}(h:l.length<=8):(l.map i64)++(List.replicate (8-l.length) (i64 0))=[i64 (l.getD 0 0),i64 (l.getD 1 0),i64 (l.getD 2 0),i64 (l.getD 3 0),i64 (l.getD 4 0),i64 (l.getD 5 0),i64 (l.getD 6 0),i64 (l.getD 7 0)]:=by
 match l,h with
 | [],_=>rfl
 | [_],_=>rfl
 | [_,_],_=>rfl
 | [_,_,_],_=>rfl
 | [_,_,_,_],_=>rfl
 | [_,_,_,_,_],_=>rfl
 | [_,_,_,_,_,_],_=>rfl
 | [_,_,_,_,_,_,_],_=>rfl
 | [_,_,_,_,_,_,_,_],_=>rfl
 | _::_::_::_::_::_::_::_::_::_,h=>simp at h
theorem yT {l:List Int}(h:l.length<=8) (x:D):splice [x,i64 0,i64 0,i64 0,i64 0,i64 0,i64 0,i64 0,i64 0] 1 (l.map i64)=x::[i64 (l.getD 0 0),i64 (l.getD 1 0),i64 (l.getD 2 0),i64 (l.getD 3 0),i64 (l.getD 4 0),i64 (l.getD 5 0),i64 (l.getD 6 0),i64 (l.getD 7 0)]:=by
 rw[<-take8 h];unfold splice
 have e:([x,i64 0,i64 0,i64 0,i64 0,i64 0,i64 0,i64 0,i64 0]:List D).drop (1+(l.map i64).length)=List.replicate (8-l.length) (i64 0):=by
  rw[List.length_map,Nat.add_comm,List.drop_succ_cons,show([i64 0,i64 0,i64 0,i64 0,i64 0,i64 0,i64 0,i64 0]:List D)=List.replicate 8 (i64 0) from rfl,List.drop_replicate]
 rw[e];rfl
theorem qc (l:List Int) (a b:Nat):fF (((l.map i64).drop a).take b)=true:=by rw[<-List.map_drop,<-List.map_take];exact aM (λ_=>rfl) _
theorem pA {l:List Int}(h:l.length<=8):splice [i64 l.length,i64 0,i64 0,i64 0,i64 0,i64 0,i64 0,i64 0,i64 0] (0+1*1) (List.take (min l.length 8*1) (l.map i64))=Au l:=by
 rw[kE (by simp;omega)];exact yT h _
abbrev zer9:List D:=[i64 0,i64 0,i64 0,i64 0,i64 0,i64 0,i64 0,i64 0,i64 0]
theorem As {l:List Int}(h:l.length<=8):Pu Tryz.prog 258 [aE l] (mh l):=by
 refine pv Tryz.func258 ?_;repeat' ((conv=>whnf);first|refine ax.weak (x:=Code.seq (Code.region 3 _ false) _) aA T0 (s0:=⟨tmp 11 [(2,.ptr 0 0),(3,.ptr 1 0)],⟨2,[(0,.cells zer9 true),(1,.cells (Au l) true)]⟩⟩) ?_ ?_|exact kQ|(refine bk ?_ ?_<;>intro _<;>try(exfalso;omega))|refine stq ?_|refine Chk.mk ⟨by omega,by omega,by omega,by omega,kD rfl⟩ ?_|refine Chk.mk (kD rfl) ?_|refine ad.lst ?_|refine Chk.mk (aM (λ_=>rfl) _) ?_|fail)
 ·skip
  exact lq [(0,0),(1,4)] []
 all_goals(conv=>whnf)
 exact aI.same rfl rfl
theorem ad.own {h:aB}{id off n cap es:Nat}{ex bx:Bool}{cs:List D}{K:Nat->List D->Prop}(hg:h.get id=some (.cells cs bx)) (hl:off+n*es<=cs.length) (go:K n ((cs.drop off).take (n*es))):ad h es (.sl id off n cap es ex) K:=⟨_,_,by simp[bR,hg,hl],go⟩
theorem Ar {l:List Int}{o k cp:Nat}(hk:k<=8) (ho:o+k<=l.length):AC1 Tryz.prog 258 [slO o k cp] ⟨1,[(0,.cells (l.map i64) false)]⟩ (mh ((l.drop o).take k)) ⟨1,[(0,.cells (l.map i64) false)]⟩:=by
 refine AC1.of_vf aA T0 Tryz.func258 rfl rfl ?_;have hle:((l.drop o).take k).length=k:=by simp;omega
 have hce:=pA (l:=(l.drop o).take k) om;rw[hle,List.map_take,List.map_drop] at hce;have hce:splice [i64 k,i64 0,i64 0,i64 0,i64 0,i64 0,i64 0,i64 0,i64 0] (0+1*1) (List.take (min k 8*1) (((l.map i64).drop o).take (k*1)))=Au ((l.drop o).take k):=by rw[Nat.mul_one k];exact hce
 repeat' ((conv=>whnf);first|refine ax.weak (x:=Code.seq (Code.region 3 _ false) _) aA T0 (s0:=⟨tmp 11 [(2,.ptr 1 0),(3,.ptr 2 0)],⟨3,[(0,.cells (l.map i64) false),(1,.cells zer9 true),(2,.cells (Au ((l.drop o).take k)) true)]⟩⟩) ?_ ?_|exact kQ|(refine bk ?_ ?_<;>intro _<;>try(exfalso;omega))|refine stq ?_|refine Chk.mk ⟨by omega,by omega,by omega,by omega,kD rfl⟩ ?_|refine Chk.mk (kD rfl) ?_|refine ad.own (es:=1) rfl (by simp;omega) ?_|refine Chk.mk (qc _ _ _) ?_|fail)
 ·exact lq [(1,1),(2,5)] []
 all_goals(conv=>whnf)
 refine⟨Or.inr rfl,_,rfl,?_⟩;exact lq0
end
end Go.Proofs.YticpeeooobajgaaGreatDoor
