/-
  Contracts of functions over data: valid mappings of the reference.
-/
import Derived.Test.YtpgcjpcenaefpaaGreatDoorH5
import Derived.Test.YtpgcjpcenaefpaaGreatDoorH8
set_option linter.unusedSectionVars false
namespace Go.Proofs.YtpgcjpcenaefpaaGreatDoor
section
open Go Go.Am Classical
set_option maxRecDepth 100000
theorem xHE.rbX {p:Prop}(h:p:=by first|exact Rb.cells (Rds.same (qi _)) rfl|fail):p:=h
open xHE
variable [GT]
theorem Hf {m:Mpg}(hm:m.to.length<=9223372036854775807):Pu Tryz.prog 124 [.agg (iV m)] (boo (decide (j5 m))):=by
 refine pv Tryz.func124 ?_;repeat' ((conv=>whnf);first|exact kQ|(refine bk ?_ ?_<;>intro _<;>try(exfalso;omega))|refine stq ?_)
 refine aH.by aB T0 (λk:Nat=>⟨tmp 21 [(1,.ptr 0 0),(3,i64 (k:Int))],⟨1,[(0,.cells (iV m) true)]⟩⟩)
  (λk=>k<=m.to.length∧∀ i (h:i<m.to.length),i<k->cpQ m.to[i]) (λk=>m.to.length-k) 0 ⟨by omega,λ_ _ h=>by omega⟩ ?_ ?_
 ·exact lq [(0,_)] []
 intro k ⟨h3,h4⟩;by_cases hk:k<m.to.length
 ·repeat' ((conv=>whnf);first|exact kQ|(refine bk ?_ ?_<;>intro _<;>try(exfalso;omega))|refine stq ?_|refine cd ef (λ_=>?_) (λ_=>?_)|fail)
  all_goals(conv=>whnf)
  all_goals first
   | exact aC.no (λhc=>by rename_i h;exact h (hc.2 k hk))
   | (refine⟨k+1,⟨by omega,ah om h4 asm⟩,by omega,?_⟩
      exact lq [(0,_)] [])
 ·repeat' ((conv=>whnf);first|exact kQ|(refine bk ?_ ?_<;>intro _<;>try(exfalso;omega))|refine stq ?_|refine cd ef (λ_=>?_) (λ_=>?_)|fail)
  all_goals(conv=>whnf)
  all_goals first
   | exact aC.no (λhc=>by rename_i h;exact h hc.1)
   | exact aC.yes ⟨by assumption,bZ om h4⟩
theorem Fe {a b:Mpg}:Pu Tryz.prog 93 [.agg (iV a),.agg (iV b)] (boo (decide (bef a b))):=by
 refine pv Tryz.func93 ?_;repeat' ((conv=>whnf);first|exact kQ|(refine bk ?_ ?_<;>intro _<;>try(exfalso;omega))|refine stq ?_)
 all_goals(conv=>whnf)
 all_goals first
  | exact aC.yes (.inl om)
  | exact aC.yes (.inr ⟨by omega,by assumption⟩)
  | exact aC.no (by rintro(h|⟨h,h'⟩)<;>first|omega|contradiction)
theorem GB {l:List Mpg}(hlen:l.length<=9223372036854775806):Pu Tryz.prog 126 [cH l] (boo (decide (Tw l))):=by
 refine pv Tryz.func126 ?_;repeat' ((conv=>whnf);first|exact kQ|(refine bk ?_ ?_<;>intro _<;>try(exfalso;omega))|refine stq ?_)
 refine aH.by aB T0 (λk:Nat=>⟨tmp 40 [(0,cH l),(3,i64 (k:Int))],⟨0,[]⟩⟩)
  (λk=>k<=l.length∧∀ i (h:i<l.length),i<k->∀ j (hj:j<i),¬(l[i].frm=(l[j]'(by omega)).frm∧l[i].tag=(l[j]'(by omega)).tag)) (λk=>l.length-k) 0 ⟨by omega,λ_ _ h=>by omega⟩ ?_ ?_
 ·exact lq0
 intro k ⟨h3,h4⟩;by_cases hk:k<l.length
 ·repeat' ((conv=>whnf);first|exact kQ|(refine bk ?_ ?_<;>intro _<;>try(exfalso;omega))|refine stq ?_|fail)
  refine aH.by aB T0 (λj:Nat=>⟨tmp 40 [(0,cH l),(3,i64 (k:Int)),(4,i64 (j:Int))],⟨0,[]⟩⟩)
   (λj=>j<=k∧∀ i (h:i<k),i<j->¬(l[k].frm=(l[i]'(by omega)).frm∧l[k].tag=(l[i]'(by omega)).tag)) (λj=>k-j) 0 ⟨by omega,λ_ _ h=>by omega⟩ ?_ ?_
  ·exact lq0
  intro j ⟨h5,h6⟩;repeat' ((conv=>whnf);first|refine Idx.atS (sz:=3) (c:=iV) (by intro _;rfl) j om om ?_|refine Idx.atS (sz:=3) (c:=iV) (by intro _;rfl) k om om ?_|exact kQ|(refine bk ?_ ?_<;>intro _<;>try(exfalso;omega))|refine stq ?_)
  all_goals(conv=>whnf)
  all_goals first
   | exact aC.yes ⟨k,hk,j,by omega,by assumption,by assumption⟩
   | (refine⟨j+1,⟨by omega,ah om h6 (λhc=>by first|exact absurd hc.1 asm|exact absurd hc.2 asm)⟩,by omega,?_⟩
      exact lq0)
   | (refine⟨k+1,⟨by omega,ah om h4 (λi hi=>h6 i hi om)⟩,by omega,?_⟩
      exact lq0)
 ·repeat' ((conv=>whnf);first|exact kQ|(refine bk ?_ ?_<;>intro _<;>try(exfalso;omega))|refine stq ?_)
  all_goals(conv=>whnf)
  exact aC.no (λ⟨i,hi,j,hj,e⟩=>h4 i hi om j hj e)
noncomputable def uJ (l:List Mpg):Int:=if dR l=0 then(if Tw l then 5 else 0) else dR l
theorem uE {l:List Mpg}{e:Int}(h:dR l=e) (h0:e≠0):uJ l=e:=by rw[uJ,if_neg om,h]
theorem uns_c {l:List Mpg}(ho:Fq l):Pu Tryz.prog 92 [cH l] (i64 (uJ l)):=by
 have hlen:=ho.len;refine pv Tryz.func92 ?_;repeat' ((conv=>whnf);first|exact kQ|(refine bk ?_ ?_<;>intro _<;>try(exfalso;omega))|refine stq ?_)
 refine aH.by aB T0 (λk:Nat=>⟨tmp 54 [(0,cH l),(3,i64 (k:Int))],⟨0,[]⟩⟩)
  (λk=>k<=l.length∧∀ i (h:i<l.length),i<k->j5 l[i]) (λk=>l.length-k) 0 ⟨by omega,λ_ _ h=>by omega⟩ ?_ ?_
 ·exact lq0
 intro k ⟨h3,h4⟩;by_cases hk:k<l.length
 ·have hto:=ho.to k hk;repeat' ((conv=>whnf);first|exact kQ|(refine bk ?_ ?_<;>intro _<;>try(exfalso;omega))|refine stq ?_|refine cd (Hf sd) (λ_=>?_) (λ_=>?_)|fail)
  all_goals(conv=>whnf)
  all_goals first
   | exact aC.int (uE (pE1 hk asm) om).symm
   | (refine⟨k+1,⟨by omega,ah om h4 asm⟩,by omega,?_⟩
      exact lq0)
 ·have g1:=bZ (by omega:l.length<=k) h4;repeat' ((conv=>whnf);first|exact kQ|(refine bk ?_ ?_<;>intro _<;>try(exfalso;omega))|refine stq ?_|fail)
  refine aH.by aB T0 (λk:Nat=>⟨tmp 54 [(0,cH l),(4,i64 (k:Int))],⟨0,[]⟩⟩)
   (λk=>k<=l.length∧∀ i (h:i<l.length),i<k->l[i].to.length<=64) (λk=>l.length-k) 0 ⟨by omega,λ_ _ h=>by omega⟩ ?_ ?_
  ·exact lq0
  intro k ⟨h3,h4⟩;by_cases hk:k<l.length
  ·have hto:=ho.to k hk;repeat' ((conv=>whnf);first|exact kQ|(refine bk ?_ ?_<;>intro _<;>try(exfalso;omega))|refine stq ?_)
   all_goals(conv=>whnf)
   all_goals first
    | exact aC.int (uE (pE2 g1 hk om) om).symm
    | (refine⟨k+1,⟨by omega,ah om h4 om⟩,by omega,?_⟩
       exact lq0)
  ·have g2:=bZ (by omega:l.length<=k) h4;repeat' ((conv=>whnf);first|exact kQ|(refine bk ?_ ?_<;>intro _<;>try(exfalso;omega))|refine stq ?_|fail)
   refine aH.by aB T0 (λk:Nat=>⟨tmp 54 [(0,cH l),(5,i64 (k:Int))],⟨0,[]⟩⟩)
    (λk=>k<=l.length∧∀ i (h:i<l.length),i<k->DB l[i]) (λk=>l.length-k) 0 ⟨by omega,λ_ _ h=>by omega⟩ ?_ ?_
   ·exact lq0
   intro k ⟨h3,h4⟩;by_cases hk:k<l.length
   ·have htg:=ho.tag k hk;repeat' ((conv=>whnf);first|exact kQ|(refine bk ?_ ?_<;>intro _<;>try(exfalso;omega))|refine stq ?_|refine cd (GW sd) (λ_=>?_) (λ_=>?_)|fail)
    all_goals(conv=>whnf)
    all_goals first
     | exact aC.int (uE (pE6 g1 g2 hk (by rintro(h|h)<;>first|contradiction|exact absurd h asm)) om).symm
     | (refine⟨k+1,⟨by omega,ah om h4 (by first|exact .inl asm|exact .inr asm)⟩,by omega,?_⟩
        exact lq0)
   ·repeat' ((conv=>whnf);first|exact kQ|(refine bk ?_ ?_<;>intro _<;>try(exfalso;omega))|refine stq ?_|refine cd (GB sd) (λ_=>?_) (λ_=>?_)|fail)
    all_goals(conv=>whnf)
    all_goals first
     | exact aC.int (by rename_i h;rw[uJ,if_pos (pE0 g1 g2 (bZ om h4)),if_pos h])
     | exact aC.int (by rename_i h;rw[uJ,if_pos (pE0 g1 g2 (bZ om h4)),if_neg h])
theorem sc {l:List Mpg}(ho:Fq l):∃ e:Int,Pu Tryz.prog 68 [cH l] (i64 e)∧(e=0↔MOk l):=by
 have hlen:=ho.len;have hu:=uns_c ho;by_cases h0:uJ l=0
 ·rw[h0] at hu
  have hp:dR l=0:=by
   rw[uJ] at h0;split at h0
   ·assumption
   ·exact h0
  refine⟨if Asc l then 0 else 4,?_,λh=>⟨hp,by split at h<;>first|assumption|omega⟩,λh=>by rw[if_pos h.2]⟩;refine pv Tryz.func68 ?_;repeat' ((conv=>whnf);first|exact kQ|(refine bk ?_ ?_<;>intro _<;>try(exfalso;omega))|refine stq ?_|refine cp hu ?_|fail)
  refine aH.by aB T0 (λk:Nat=>⟨tmp 27 [(0,cH l),(4,i64 ((k+1:Nat):Int))],⟨0,[]⟩⟩)
   (λk=>k<=l.length∧∀ i (h:i<l.length),i<=k->∀ h0:i≠0,bef (l[i-1]'(by omega)) l[i]) (λk=>l.length-k) 0 ⟨by omega,λi h hi h0=>by omega⟩ ?_ ?_
  ·exact lq0
  intro k ⟨h3,h4⟩;by_cases hk:k+1<l.length
  ·repeat' ((conv=>whnf);first|refine Idx.atS (sz:=3) (c:=iV) (by intro _;rfl) k om om ?_|refine Idx.atS (sz:=3) (c:=iV) (by intro _;rfl) (k+1) om om ?_|exact kQ|(refine bk ?_ ?_<;>intro _<;>try(exfalso;omega))|refine stq ?_|refine cd Fe (λ_=>?_) (λ_=>?_)|fail)
   all_goals(conv=>whnf)
   all_goals first
    | exact aC.int (by rename_i hb;rw[if_neg (λha:Asc l=>hb (by have:=ha (k+1) hk om;simpa using this))])
    | (rename_i hb
       refine⟨k+1,⟨by omega,λi h hi h0=>(Decidable.em (i=k+1)).elim (λhe=>by subst he;simpa using hb) (λhe=>h4 i h om h0)⟩,by omega,?_⟩
       exact lq0)
  ·repeat' ((conv=>whnf);first|exact kQ|(refine bk ?_ ?_<;>intro _<;>try(exfalso;omega))|refine stq ?_)
   all_goals(conv=>whnf)
   have ha:Asc l:=λi h h0=>h4 i h om h0
   exact aC.int (by rw[if_pos ha])
 ·refine⟨uJ l,?_,λh=>absurd h h0,λh=>by rw[uJ,if_pos h.1,if_neg h.2.once]⟩;refine pv Tryz.func68 ?_;repeat' ((conv=>whnf);first|exact kQ|(refine bk ?_ ?_<;>intro _<;>try(exfalso;omega))|refine stq ?_|refine cp hu ?_|fail)
  all_goals(conv=>whnf)
  exact aC.same rfl rfl
end
section
open Go Go.Am Classical
set_option maxRecDepth 100000
variable [GT]
theorem ap:Pu Tryz.prog 45 [] (strs af):=by
 refine pv Tryz.func45 ?_;repeat' ((conv=>whnf);first|exact kQ|(refine bk ?_ ?_<;>intro _<;>try(exfalso;omega))|refine stq ?_)
 all_goals(conv=>whnf)
 exact⟨Rd.frz rfl rfl (kD rfl) (Rds.eqs rfl rfl)⟩
set_option maxHeartbeats 8000000 in
theorem gt (d:Db):∀ k:Nat,k<7->Pu Tryz.prog 47 [dbD d,i64 (k:Int)] (bw (prop d k)):=by
 intro k hk;have hn:=s9 (prop d k);rcases(by omega:k=0∨k=1∨k=2∨k=3∨k=4∨k=5∨k=6) with rfl|rfl|rfl|rfl|rfl|rfl|rfl
 all_goals
  refine pv Tryz.func47 ?_;repeat' ((conv=>whnf);first|exact kQ|(refine bk ?_ ?_<;>intro _<;>try(exfalso;omega))|refine stq ?_)
  all_goals(conv=>whnf)
  exact⟨Rd.eqd rfl hn⟩
theorem kl (l:List Rng):aI (sA l)=true:=by simp[aI,aF,aw]
set_option maxHeartbeats 8000000 in
theorem lh (d:Db):∀ k:Nat,k<6->Pu Tryz.prog 49 [dbD d,i64 (k:Int)] (sA (Ba d k)):=by
 intro k hk;have hn:=kl (Ba d k);rcases(by omega:k=0∨k=1∨k=2∨k=3∨k=4∨k=5) with rfl|rfl|rfl|rfl|rfl|rfl
 all_goals
  refine pv Tryz.func49 ?_;repeat' ((conv=>whnf);first|exact kQ|(refine bk ?_ ?_<;>intro _<;>try(exfalso;omega))|refine stq ?_)
  all_goals(conv=>whnf)
  exact⟨Rd.eqd rfl hn⟩
set_option maxHeartbeats 8000000 in
theorem lk (d:Db):∀ k:Nat,k<21->Pu Tryz.prog 51 [dbD d,i64 (k:Int)] (cH (fm d k)):=by
 intro k hk;have hn:=bn (fm d k);rcases(by omega:k=0∨k=1∨k=2∨k=3∨k=4∨k=5∨k=6∨k=7∨k=8∨k=9∨k=10∨k=11∨k=12∨k=13∨k=14∨k=15∨k=16∨k=17∨k=18∨k=19∨k=20) with rfl|rfl|rfl|rfl|rfl|rfl|rfl|rfl|rfl|rfl|rfl|rfl|rfl|rfl|rfl|rfl|rfl|rfl|rfl|rfl|rfl
 all_goals
  refine pv Tryz.func51 ?_;repeat' ((conv=>whnf);first|refine Br.strF rfl ?_|refine Br.strT rfl ?_|refine Idx.at (f:=D.str) (l:=af) _ rfl (kD rfl) ?_|exact kQ|(refine bk ?_ ?_<;>intro _<;>try(exfalso;omega))|refine stq ?_|refine cp ap ?_|fail)
  all_goals(conv=>whnf)
  exact⟨Rd.eqd rfl hn⟩
def sof (k:Nat):Int:=([-1,-1,-1,-1,-1,-1,-1,-1,-1,-1,0,-1,-1,-1,-1,1,2,3,4,5,-1]:List Int).getD k 0
set_option maxHeartbeats 8000000 in
theorem dZ:∀ k:Nat,k<21->Pu Tryz.prog 66 [.str (gx k)] (i64 (sof k)):=by
 intro k hk;rcases(by omega:k=0∨k=1∨k=2∨k=3∨k=4∨k=5∨k=6∨k=7∨k=8∨k=9∨k=10∨k=11∨k=12∨k=13∨k=14∨k=15∨k=16∨k=17∨k=18∨k=19∨k=20) with rfl|rfl|rfl|rfl|rfl|rfl|rfl|rfl|rfl|rfl|rfl|rfl|rfl|rfl|rfl|rfl|rfl|rfl|rfl|rfl|rfl
 all_goals
  refine pv Tryz.func66 ?_;repeat' ((conv=>whnf);first|refine Br.strF rfl ?_|refine Br.strT rfl ?_|exact kQ|(refine bk ?_ ?_<;>intro _<;>try(exfalso;omega))|refine stq ?_)
  all_goals(conv=>whnf)
  exact⟨Rd.eqd rfl rfl⟩
theorem z8 {n:Int}:Pu Tryz.prog 44 [i64 n] (boo (decide (uH n))):=by
 refine pv Tryz.func44 ?_;repeat' ((conv=>whnf);first|exact kQ|(refine bk ?_ ?_<;>intro _<;>try(exfalso;omega))|refine stq ?_)
 all_goals(conv=>whnf)
 all_goals first
  | exact aC.yes ⟨by omega,by omega⟩
  | exact aC.no (λhc=>by have:=hc.1;have:=hc.2;omega)
theorem rcls_c {l:List Spn}(hl:l.length<=9223372036854775807):Pu Tryz.prog 65 [cV l] (boo (decide (ClV l))):=by
 refine pv Tryz.func65 ?_;repeat' ((conv=>whnf);first|exact kQ|(refine bk ?_ ?_<;>intro _<;>try(exfalso;omega))|refine stq ?_)
 refine aH.by aB T0 (λk:Nat=>⟨tmp 76 [(0,cV l),(3,i64 (k:Int))],⟨0,[]⟩⟩)
  (λk=>k<=l.length∧∀ i (h:i<l.length),i<k->ClQ l i l[i]) (λk=>l.length-k) 0 ⟨by omega,λ_ _ h=>by omega⟩ ?_ ?_
 ·exact lq0
 intro k ⟨h3,h4⟩;by_cases hk:k=0
 ·subst hk;repeat' ((conv=>whnf);first|exact kQ|(refine bk ?_ ?_<;>intro _<;>try(exfalso;omega))|refine stq ?_)
  all_goals(conv=>whnf)
  all_goals first
   | exact aC.no (λhc=>by have:=(hc 0 om).1;omega)
   | exact aC.yes (bZ om h4)
   | (refine⟨0+1,⟨by omega,ah om h4 ⟨by omega,λh=>absurd rfl h⟩⟩,by omega,?_⟩
      exact lq0)
 ·by_cases hk2:k<l.length
  ·have h5:=h4 (k-1) om om;have h6:=h5.1;have e:l.getD (k-1) default=l[k-1]:=aK om;repeat' ((conv=>whnf);first|exact kQ|(refine bk ?_ ?_<;>intro _<;>try(exfalso;omega))|refine stq ?_|refine Idx.atS (by intro _;rfl) (k-1) om om ?_)
   all_goals(conv=>whnf)
   all_goals first
    | exact aC.no (λhc=>by have h7:=hc k om;have:=h7.1;have:=h7.2 hk;rw[e] at this;omega)
    | (refine⟨k+1,⟨by omega,ah om h4 ⟨by omega,λ_=>by rw[e];omega⟩⟩,by omega,?_⟩
       exact lq0)
  ·repeat' ((conv=>whnf);first|exact kQ|(refine bk ?_ ?_<;>intro _<;>try(exfalso;omega))|refine stq ?_)
   all_goals(conv=>whnf)
   exact aC.yes (bZ om h4)
theorem DQ {l:List Rng}:Pu Tryz.prog 48 [sA l] (boo (decide (l.length<=12))):=by
 refine pv Tryz.func48 ?_;repeat' ((conv=>whnf);first|exact kQ|(refine bk ?_ ?_<;>intro _<;>try(exfalso;omega))|refine stq ?_)
 all_goals(conv=>whnf)
 all_goals first
  | exact aC.yes om
  | exact aC.no om
theorem D8 {l:List Mpg}(hlen:l.length<=9223372036854775807) (hto0:∀ i (h:i<l.length),l[i].to.length<=9223372036854775807∧l[i].tag.length<=9223372036854775807):Pu Tryz.prog 50 [cH l] (boo (decide (SmM l))):=by
 refine pv Tryz.func50 ?_;repeat' ((conv=>whnf);first|exact kQ|(refine bk ?_ ?_<;>intro _<;>try(exfalso;omega))|refine stq ?_)
 refine aH.by aB T0 (λk:Nat=>⟨tmp 33 [(0,cH l),(3,i64 (k:Int))],⟨0,[]⟩⟩)
  (λk=>(k<=l.length∧k<=30)∧∀ i (h:i<l.length),i<k->(i<30->l[i].to.length<=65∧l[i].tag.length<=40)) (λk=>l.length-k) 0 ⟨by omega,λ_ _ h=>by omega⟩ ?_ ?_
 ·exact lq0
 intro k ⟨⟨h3,h5⟩,h4⟩;by_cases hk:k<l.length
 ·have hto:=(hto0 k hk).1;have htg:=(hto0 k hk).2;by_cases hk3:k<30
  ·repeat' ((conv=>whnf);first|exact kQ|(refine bk ?_ ?_<;>intro _<;>try(exfalso;omega))|refine stq ?_)
   all_goals(conv=>whnf)
   all_goals first
    | exact aC.no (λhc=>by have:=hc.1 k hk hk3;omega)
    | (refine⟨k+1,⟨⟨by omega,by omega⟩,ah hk h4 (λ_=>by omega)⟩,by omega,?_⟩
       exact lq0)
  ·repeat' ((conv=>whnf);first|exact kQ|(refine bk ?_ ?_<;>intro _<;>try(exfalso;omega))|refine stq ?_)
   all_goals(conv=>whnf)
   all_goals first
    | exact aC.no (λhc=>by have:=hc.2;omega)
    | exact aC.yes ⟨λi h hi=>h4 i h om hi,by omega⟩
 ·repeat' ((conv=>whnf);first|exact kQ|(refine bk ?_ ?_<;>intro _<;>try(exfalso;omega))|refine stq ?_)
  all_goals(conv=>whnf)
  all_goals first
   | exact aC.no (λhc=>by have:=hc.2;omega)
   | exact aC.yes ⟨λi h hi=>h4 i h om hi,by omega⟩
end
section
open Go Go.Am Classical
set_option maxRecDepth 100000
theorem xHL.rbX {p:Prop}(h:p:=by first|exact Rb.cells (Rds.same (cT _)) rfl|fail):p:=h
open xHL
variable [GT]
theorem DP {Q:Nat->Prop}{k:Nat}(h:∀ i,i<k->Q i) (h0:Q k):∀ i,i<k+1->Q i:=λi hi=>by
 rcases(by omega:i<k∨i=k) with h1|rfl
 ·exact h i h1
 ·exact h0
theorem E2 {d:Db}(ho:d.ok):Pu Tryz.prog 24 [dbD d] (boo (decide (SmD d))):=by
 have hcl:=ho.classes;refine pv Tryz.func24 ?_;repeat' ((conv=>whnf);first|exact kQ|(refine bk ?_ ?_<;>intro _<;>try(exfalso;omega))|refine stq ?_)
 all_goals(conv=>whnf)
 all_goals first
  | exact aC.no (λhc=>by have:=hc.1;omega)
  | skip
 refine aH.by aB T0 (λk:Nat=>⟨tmp 49 [(1,.ptr 0 0),(3,i64 (k:Int))],⟨1,[(0,.cells (dbC d) true)]⟩⟩)
  (λk=>k<=7∧∀ i,i<k->(prop d i).names.length<=30∧(prop d i).spans.length<=16) (λk=>7-k) 0 ⟨by omega,λ_ h=>by omega⟩ ?_ ?_
 ·exact lq [(0,_)] []
 intro k ⟨h3,h4⟩;by_cases hk:k<7
 ·have hp:=gt d k hk;have hn:=(ho.prop k).names;have hsp:=(ho.prop k).spans;repeat' ((conv=>whnf);first|exact kQ|(refine bk ?_ ?_<;>intro _<;>try(exfalso;omega))|refine stq ?_|refine cp hp ?_|fail)
  all_goals(conv=>whnf)
  all_goals first
   | exact aC.no (λhc=>by have:=hc.2.1 k hk;omega)
   | (refine⟨k+1,⟨by omega,DP h4 om⟩,by omega,?_⟩
      exact lq [(0,_)] [])
 have g1:=λi (hi:i<7)=>h4 i om
 repeat' ((conv=>whnf);first|exact kQ|(refine bk ?_ ?_<;>intro _<;>try(exfalso;omega))|refine stq ?_|fail)
 refine aH.by aB T0 (λk:Nat=>⟨tmp 49 [(1,.ptr 0 0),(5,i64 (k:Int))],⟨1,[(0,.cells (dbC d) true)]⟩⟩)
  (λk=>k<=6∧∀ i,i<k->(Ba d i).length<=12) (λk=>6-k) 0 ⟨by omega,λ_ h=>by omega⟩ ?_ ?_
 ·exact lq [(0,_)] []
 intro k ⟨h3,h4⟩;by_cases hk:k<6
 ·have hp:=lh d k hk;repeat' ((conv=>whnf);first|exact kQ|(refine bk ?_ ?_<;>intro _<;>try(exfalso;omega))|refine stq ?_|refine cp hp ?_|refine cd DQ (λ_=>?_) (λ_=>?_)|fail)
  all_goals(conv=>whnf)
  all_goals first
   | exact aC.no (λhc=>by have:=hc.2.2.1 k hk;omega)
   | (refine⟨k+1,⟨by omega,DP h4 om⟩,by omega,?_⟩
      exact lq [(0,_)] [])
 have g2:=λi (hi:i<6)=>h4 i om
 repeat' ((conv=>whnf);first|exact kQ|(refine bk ?_ ?_<;>intro _<;>try(exfalso;omega))|refine stq ?_|fail)
 refine aH.by aB T0 (λk:Nat=>⟨tmp 49 [(1,.ptr 0 0),(6,i64 (k:Int))],⟨1,[(0,.cells (dbC d) true)]⟩⟩)
  (λk=>k<=21∧∀ i,i<k->SmM (fm d i)) (λk=>21-k) 0 ⟨by omega,λ_ h=>by omega⟩ ?_ ?_
 ·exact lq [(0,_)] []
 intro k ⟨h3,h4⟩;have hfl:af.length=21:=rfl;by_cases hk:k<21
 ·have hp:=lk d k hk;have hm:=D8 (l:=fm d k) (ho.maps k).1 (ho.maps k).2;repeat' ((conv=>whnf);first|exact kQ|(refine bk ?_ ?_<;>intro _<;>try(exfalso;omega))|refine stq ?_|refine cp ap ?_|refine cp hp ?_|refine cd hm (λ_=>?_) (λ_=>?_)|fail)
  all_goals(conv=>whnf)
  all_goals first
   | exact aC.no (λhc=>by have:=hc.2.2.2 k hk;contradiction)
   | (refine⟨k+1,⟨by omega,DP h4 asm⟩,by omega,?_⟩
      exact lq [(0,_)] [])
 repeat' ((conv=>whnf);first|exact kQ|(refine bk ?_ ?_<;>intro _<;>try(exfalso;omega))|refine stq ?_|refine cp ap ?_|fail)
 all_goals(conv=>whnf)
 exact aC.yes ⟨by omega,g1,g2,λi hi=>h4 i om⟩
end
end Go.Proofs.YtpgcjpcenaefpaaGreatDoor
