/-
  Contracts of functions over data: valid mappings of the reference.
-/
import Derived.Test.YtlimkdlhldlolaaGreatDoorH8
set_option linter.unusedSectionVars false
namespace Go.Proofs.YtlimkdlhldlolaaGreatDoor
open Go Go.Am Classical
set_option maxHeartbeats 8000000
set_option maxRecDepth 100000
section
theorem xHE.rbX {p:Prop}(h:p:=by first|exact Rb.cells (Rds.same (ql _)) rfl|fail):p:=h
open xHE
variable [GT]
theorem Io {m:Mpg}(hm:m.to.length<=9223372036854775807):Pu Tryz.prog 122 [.agg (iu m)] (boo (decide (kr m))):=by
 refine pv Tryz.func122 ?_;repeat' ((conv=>whnf);first|exact kQ|(refine bk ?_ ?_<;>intro _<;>try exact exo)|refine stq ?_)
 refine aG.by aB T0 (λk:Nat=>⟨tmp 21 [(1,.ptr 0 0),(3,i64 (k:Int))],⟨1,[(0,.cells (iu m) true)]⟩⟩)
  (λk=>k<=m.to.length/\∀ i (h:i<m.to.length),i<k->cpQ m.to[i]) (λk=>m.to.length-k) 0 ⟨om,λ_ _ h=>om⟩ ?_ ?_
 .exact lq [(0,_)] []
 intro k ⟨h3,h4⟩;by_cases hk:k<m.to.length
 .repeat' ((conv=>whnf);first|exact kQ|(refine bk ?_ ?_<;>intro _<;>try exact exo)|refine stq ?_|refine cd fJ (λ_=>?_) (λ_=>?_)|fail)
  all_goals(conv=>whnf)
  all_goals first
   | exact aD.no (λhc=>by rename_i h;exact h (hc.2 k hk))
   | (refine⟨k+1,⟨om,aj om h4 asm⟩,om,?_⟩
      exact lq [(0,_)] [])
 .repeat' ((conv=>whnf);first|exact kQ|(refine bk ?_ ?_<;>intro _<;>try exact exo)|refine stq ?_|refine cd fJ (λ_=>?_) (λ_=>?_)|fail)
  all_goals(conv=>whnf)
  all_goals first
   | exact aD.no (λhc=>by rename_i h;exact h hc.1)
   | exact aD.yes ⟨asm,bt om h4⟩
theorem GW {a b:Mpg}:Pu Tryz.prog 92 [.agg (iu a),.agg (iu b)] (boo (decide (bef a b))):=by
 refine pv Tryz.func92 ?_;repeat' ((conv=>whnf);first|exact kQ|(refine bk ?_ ?_<;>intro _<;>try exact exo)|refine stq ?_)
 all_goals(conv=>whnf)
 all_goals first
  | exact aD.yes (.inl om)
  | exact aD.yes (.inr ⟨om,asm⟩)
  | exact aD.no (by rintro(h|⟨h,h'⟩)<;>first|omega|contradiction)
theorem HE {l:List Mpg}(hlen:l.length<=9223372036854775806):Pu Tryz.prog 124 [cT l] (boo (decide (Tw l))):=by
 refine pv Tryz.func124 ?_;repeat' ((conv=>whnf);first|exact kQ|(refine bk ?_ ?_<;>intro _<;>try exact exo)|refine stq ?_)
 refine aG.by aB T0 (λk:Nat=>⟨tmp 40 [(0,cT l),(3,i64 (k:Int))],⟨0,[]⟩⟩)
  (λk=>k<=l.length/\∀ i (h:i<l.length),i<k->∀ j (hj:j<i),¬(l[i].frm=(l[j]'(by omega)).frm/\l[i].tag=(l[j]'(by omega)).tag)) (λk=>l.length-k) 0 ⟨om,λ_ _ h=>om⟩ ?_ ?_
 .exact lq0
 intro k ⟨h3,h4⟩;by_cases hk:k<l.length
 .repeat' ((conv=>whnf);first|exact kQ|(refine bk ?_ ?_<;>intro _<;>try exact exo)|refine stq ?_|fail)
  refine aG.by aB T0 (λj:Nat=>⟨tmp 40 [(0,cT l),(3,i64 (k:Int)),(4,i64 (j:Int))],⟨0,[]⟩⟩)
   (λj=>j<=k/\∀ i (h:i<k),i<j->¬(l[k].frm=(l[i]'(by omega)).frm/\l[k].tag=(l[i]'(by omega)).tag)) (λj=>k-j) 0 ⟨om,λ_ _ h=>om⟩ ?_ ?_
  .exact lq0
  intro j ⟨h5,h6⟩;repeat' ((conv=>whnf);first|refine Idx.atS (sz:=3) (c:=iu) (by intro _;rfl) j om om ?_|refine Idx.atS (sz:=3) (c:=iu) (by intro _;rfl) k om om ?_|exact kQ|(refine bk ?_ ?_<;>intro _<;>try exact exo)|refine stq ?_)
  all_goals(conv=>whnf)
  all_goals first
   | exact aD.yes ⟨k,hk,j,om,asm,asm⟩
   | (refine⟨j+1,⟨om,aj om h6 (λhc=>by first|exact absurd hc.1 asm|exact absurd hc.2 asm)⟩,om,?_⟩
      exact lq0)
   | (refine⟨k+1,⟨om,aj om h4 (λi hi=>h6 i hi om)⟩,om,?_⟩
      exact lq0)
 .repeat' ((conv=>whnf);first|exact kQ|(refine bk ?_ ?_<;>intro _<;>try exact exo)|refine stq ?_)
  (conv=>whnf)
  exact aD.no (λ⟨i,hi,j,hj,e⟩=>h4 i hi om j hj e)
noncomputable def uY (l:List Mpg):Int:=if dg l=0 then(if Tw l then 5 else 0) else dg l
theorem uE {l:List Mpg}{e:Int}(h:dg l=e) (h0:e≠0):uY l=e:=by rw[uY,if_neg om,h]
theorem uns_c {l:List Mpg}(ho:Gk l):Pu Tryz.prog 91 [cT l] (i64 (uY l)):=by
 have hlen:=ho.len;refine pv Tryz.func91 ?_;repeat' ((conv=>whnf);first|exact kQ|(refine bk ?_ ?_<;>intro _<;>try exact exo)|refine stq ?_)
 refine aG.by aB T0 (λk:Nat=>⟨tmp 54 [(0,cT l),(3,i64 (k:Int))],⟨0,[]⟩⟩)
  (λk=>k<=l.length/\∀ i (h:i<l.length),i<k->kr l[i]) (λk=>l.length-k) 0 ⟨om,λ_ _ h=>om⟩ ?_ ?_
 .exact lq0
 intro k ⟨h3,h4⟩;by_cases hk:k<l.length
 .have hto:=ho.to k hk;repeat' ((conv=>whnf);first|exact kQ|(refine bk ?_ ?_<;>intro _<;>try exact exo)|refine stq ?_|refine cd (Io sd) (λ_=>?_) (λ_=>?_)|fail)
  all_goals(conv=>whnf)
  all_goals first
   | exact aD.int (uE (pE1 hk asm) om).symm
   | (refine⟨k+1,⟨om,aj om h4 asm⟩,om,?_⟩
      exact lq0)
 .have g1:=bt (by omega:l.length<=k) h4;repeat' ((conv=>whnf);first|exact kQ|(refine bk ?_ ?_<;>intro _<;>try exact exo)|refine stq ?_|fail)
  refine aG.by aB T0 (λk:Nat=>⟨tmp 54 [(0,cT l),(4,i64 (k:Int))],⟨0,[]⟩⟩)
   (λk=>k<=l.length/\∀ i (h:i<l.length),i<k->l[i].to.length<=64) (λk=>l.length-k) 0 ⟨om,λ_ _ h=>om⟩ ?_ ?_
  .exact lq0
  intro k ⟨h3,h4⟩;by_cases hk:k<l.length
  .have hto:=ho.to k hk;repeat' ((conv=>whnf);first|exact kQ|(refine bk ?_ ?_<;>intro _<;>try exact exo)|refine stq ?_)
   all_goals(conv=>whnf)
   all_goals first
    | exact aD.int (uE (pE2 g1 hk om) om).symm
    | (refine⟨k+1,⟨om,aj om h4 om⟩,om,?_⟩
       exact lq0)
  .have g2:=bt (by omega:l.length<=k) h4;repeat' ((conv=>whnf);first|exact kQ|(refine bk ?_ ?_<;>intro _<;>try exact exo)|refine stq ?_|fail)
   refine aG.by aB T0 (λk:Nat=>⟨tmp 54 [(0,cT l),(5,i64 (k:Int))],⟨0,[]⟩⟩)
    (λk=>k<=l.length/\∀ i (h:i<l.length),i<k->D8 l[i]) (λk=>l.length-k) 0 ⟨om,λ_ _ h=>om⟩ ?_ ?_
   .exact lq0
   intro k ⟨h3,h4⟩;by_cases hk:k<l.length
   .have htg:=ho.tag k hk;repeat' ((conv=>whnf);first|exact kQ|(refine bk ?_ ?_<;>intro _<;>try exact exo)|refine stq ?_|refine cd (Hf sd) (λ_=>?_) (λ_=>?_)|fail)
    all_goals(conv=>whnf)
    all_goals first
     | exact aD.int (uE (pE6 g1 g2 hk (by rintro(h|h)<;>first|contradiction|exact absurd h asm)) om).symm
     | (refine⟨k+1,⟨om,aj om h4 (by first|exact .inl asm|exact .inr asm)⟩,om,?_⟩
        exact lq0)
   .repeat' ((conv=>whnf);first|exact kQ|(refine bk ?_ ?_<;>intro _<;>try exact exo)|refine stq ?_|refine cd (HE sd) (λ_=>?_) (λ_=>?_)|fail)
    all_goals(conv=>whnf)
    all_goals first
     | exact aD.int (by rename_i h;rw[uY,if_pos (pE0 g1 g2 (bt om h4)),if_pos h])
     | exact aD.int (by rename_i h;rw[uY,if_pos (pE0 g1 g2 (bt om h4)),if_neg h])
theorem tF {l:List Mpg}(ho:Gk l):∃ e:Int,Pu Tryz.prog 62 [cT l] (i64 e)/\(e=0↔MOk l):=by
 have hlen:=ho.len;have hu:=uns_c ho;by_cases h0:uY l=0
 .rw[h0] at hu
  have hp:dg l=0:=by
   rw[uY] at h0;split at h0
   .assumption
   .exact h0
  refine⟨if Asc l then 0 else 4,?_,λh=>⟨hp,by split at h<;>first|assumption|omega⟩,λh=>by rw[if_pos h.2]⟩;refine pv Tryz.func62 ?_;repeat' ((conv=>whnf);first|exact kQ|(refine bk ?_ ?_<;>intro _<;>try exact exo)|refine stq ?_|refine cp hu ?_|fail)
  refine aG.by aB T0 (λk:Nat=>⟨tmp 27 [(0,cT l),(4,i64 ((k+1:Nat):Int))],⟨0,[]⟩⟩)
   (λk=>k<=l.length/\∀ i (h:i<l.length),i<=k->∀ h0:i≠0,bef (l[i-1]'(by omega)) l[i]) (λk=>l.length-k) 0 ⟨om,λi h hi h0=>om⟩ ?_ ?_
  .exact lq0
  intro k ⟨h3,h4⟩;by_cases hk:k+1<l.length
  .repeat' ((conv=>whnf);first|refine Idx.atS (sz:=3) (c:=iu) (by intro _;rfl) k om om ?_|refine Idx.atS (sz:=3) (c:=iu) (by intro _;rfl) (k+1) om om ?_|exact kQ|(refine bk ?_ ?_<;>intro _<;>try exact exo)|refine stq ?_|refine cd GW (λ_=>?_) (λ_=>?_)|fail)
   all_goals(conv=>whnf)
   all_goals first
    | exact aD.int (by rename_i hb;rw[if_neg (λha:Asc l=>hb (by have:=ha (k+1) hk om;simpa using this))])
    | (rename_i hb
       refine⟨k+1,⟨om,λi h hi h0=>(Decidable.em (i=k+1)).elim (λhe=>by subst he;simpa using hb) (λhe=>h4 i h om h0)⟩,om,?_⟩
       exact lq0)
  .repeat' ((conv=>whnf);first|exact kQ|(refine bk ?_ ?_<;>intro _<;>try exact exo)|refine stq ?_)
   (conv=>whnf)
   have ha:Asc l:=λi h h0=>h4 i h om h0
   exact aD.int (by rw[if_pos ha])
 .refine⟨uY l,?_,λh=>absurd h h0,λh=>by rw[uY,if_pos h.1,if_neg h.2.once]⟩;refine pv Tryz.func62 ?_;repeat' ((conv=>whnf);first|exact kQ|(refine bk ?_ ?_<;>intro _<;>try exact exo)|refine stq ?_|refine cp hu ?_|fail)
  (conv=>whnf)
  exact aD.same rfl rfl
end
section
variable [GT]
theorem az:Pu Tryz.prog 26 [] (strs am):=by
 refine pv Tryz.func26 ?_;repeat' ((conv=>whnf);first|exact kQ|(refine bk ?_ ?_<;>intro _<;>try exact exo)|refine stq ?_)
 (conv=>whnf)
 exact⟨Rd.frz rfl rfl (kD rfl) (Rds.eqs rfl rfl)⟩
theorem iD (d:Db):∀ k:Nat,k<7->Pu Tryz.prog 23 [dbD d,i64 (k:Int)] (bY (prop d k)):=by
 intro k hk;have hn:=io (prop d k);rcases(by omega:k=0\/k=1\/k=2\/k=3\/k=4\/k=5\/k=6) with rfl|rfl|rfl|rfl|rfl|rfl|rfl
 all_goals
  refine pv Tryz.func23 ?_;repeat' ((conv=>whnf);first|exact kQ|(refine bk ?_ ?_<;>intro _<;>try exact exo)|refine stq ?_)
  (conv=>whnf)
  exact⟨Rd.eqd rfl hn⟩
theorem lI (l:List Rng):aK (sK l)=true:=by simp[aK,aF,ak]
theorem mD (d:Db):∀ k:Nat,k<6->Pu Tryz.prog 25 [dbD d,i64 (k:Int)] (sK (CH d k)):=by
 intro k hk;have hn:=lI (CH d k);rcases(by omega:k=0\/k=1\/k=2\/k=3\/k=4\/k=5) with rfl|rfl|rfl|rfl|rfl|rfl
 all_goals
  refine pv Tryz.func25 ?_;repeat' ((conv=>whnf);first|exact kQ|(refine bk ?_ ?_<;>intro _<;>try exact exo)|refine stq ?_)
  (conv=>whnf)
  exact⟨Rd.eqd rfl hn⟩
theorem mE (d:Db):∀ k:Nat,k<21->Pu Tryz.prog 28 [dbD d,i64 (k:Int)] (cT (gB d k)):=by
 intro k hk;have hn:=bn (gB d k);rcases(by omega:k=0\/k=1\/k=2\/k=3\/k=4\/k=5\/k=6\/k=7\/k=8\/k=9\/k=10\/k=11\/k=12\/k=13\/k=14\/k=15\/k=16\/k=17\/k=18\/k=19\/k=20) with rfl|rfl|rfl|rfl|rfl|rfl|rfl|rfl|rfl|rfl|rfl|rfl|rfl|rfl|rfl|rfl|rfl|rfl|rfl|rfl|rfl
 all_goals
  refine pv Tryz.func28 ?_;repeat' ((conv=>whnf);first|refine Br.strF rfl ?_|refine Br.strT rfl ?_|refine Idx.at (f:=D.str) (l:=am) _ rfl (kD rfl) ?_|exact kQ|(refine bk ?_ ?_<;>intro _<;>try exact exo)|refine stq ?_|refine cp az ?_|fail)
  (conv=>whnf)
  exact⟨Rd.eqd rfl hn⟩
def sof (k:Nat):Int:=([-1,-1,-1,-1,-1,-1,-1,-1,-1,-1,0,-1,-1,-1,-1,1,2,3,4,5,-1]:List Int).getD k 0
theorem d6:∀ k:Nat,k<21->Pu Tryz.prog 60 [.str (iJ k)] (i64 (sof k)):=by
 intro k hk;rcases(by omega:k=0\/k=1\/k=2\/k=3\/k=4\/k=5\/k=6\/k=7\/k=8\/k=9\/k=10\/k=11\/k=12\/k=13\/k=14\/k=15\/k=16\/k=17\/k=18\/k=19\/k=20) with rfl|rfl|rfl|rfl|rfl|rfl|rfl|rfl|rfl|rfl|rfl|rfl|rfl|rfl|rfl|rfl|rfl|rfl|rfl|rfl|rfl
 all_goals
  refine pv Tryz.func60 ?_;repeat' ((conv=>whnf);first|refine Br.strF rfl ?_|refine Br.strT rfl ?_|exact kQ|(refine bk ?_ ?_<;>intro _<;>try exact exo)|refine stq ?_)
  (conv=>whnf)
  exact⟨Rd.eqd rfl rfl⟩
theorem Av {n:Int}:Pu Tryz.prog 43 [i64 n] (boo (decide (uX n))):=by
 refine pv Tryz.func43 ?_;repeat' ((conv=>whnf);first|exact kQ|(refine bk ?_ ?_<;>intro _<;>try exact exo)|refine stq ?_)
 all_goals(conv=>whnf)
 all_goals first
  | exact aD.yes ⟨om,om⟩
  | exact aD.no (λhc=>by have:=hc.1;have:=hc.2;omega)
theorem rcls_c {l:List Spn}(hl:l.length<=9223372036854775807):Pu Tryz.prog 59 [cg l] (boo (decide (ClV l))):=by
 refine pv Tryz.func59 ?_;repeat' ((conv=>whnf);first|exact kQ|(refine bk ?_ ?_<;>intro _<;>try exact exo)|refine stq ?_)
 refine aG.by aB T0 (λk:Nat=>⟨tmp 76 [(0,cg l),(3,i64 (k:Int))],⟨0,[]⟩⟩)
  (λk=>k<=l.length/\∀ i (h:i<l.length),i<k->ClQ l i l[i]) (λk=>l.length-k) 0 ⟨om,λ_ _ h=>om⟩ ?_ ?_
 .exact lq0
 intro k ⟨h3,h4⟩;by_cases hk:k=0
 .subst hk;repeat' ((conv=>whnf);first|exact kQ|(refine bk ?_ ?_<;>intro _<;>try exact exo)|refine stq ?_)
  all_goals(conv=>whnf)
  all_goals first
   | exact aD.no (λhc=>by have:=(hc 0 om).1;omega)
   | exact aD.yes (bt om h4)
   | (refine⟨0+1,⟨om,aj om h4 ⟨om,λh=>absurd rfl h⟩⟩,om,?_⟩
      exact lq0)
 .by_cases hk2:k<l.length
  .have h5:=h4 (k-1) om om;have h6:=h5.1;have e:l.getD (k-1) default=l[k-1]:=aH om;repeat' ((conv=>whnf);first|exact kQ|(refine bk ?_ ?_<;>intro _<;>try exact exo)|refine stq ?_|refine Idx.atS (by intro _;rfl) (k-1) om om ?_)
   all_goals(conv=>whnf)
   all_goals first
    | exact aD.no (λhc=>by have h7:=hc k om;have:=h7.1;have:=h7.2 hk;rw[e] at this;omega)
    | (refine⟨k+1,⟨om,aj om h4 ⟨om,λ_=>by rw[e];omega⟩⟩,om,?_⟩
       exact lq0)
  .repeat' ((conv=>whnf);first|exact kQ|(refine bk ?_ ?_<;>intro _<;>try exact exo)|refine stq ?_)
   (conv=>whnf)
   exact aD.yes (bt om h4)
theorem EJ {l:List Rng}:Pu Tryz.prog 24 [sK l] (boo (decide (l.length<=12))):=by
 refine pv Tryz.func24 ?_;repeat' ((conv=>whnf);first|exact kQ|(refine bk ?_ ?_<;>intro _<;>try exact exo)|refine stq ?_)
 all_goals(conv=>whnf)
 all_goals first
  | exact aD.yes om
  | exact aD.no om
theorem FD {l:List Mpg}(hlen:l.length<=9223372036854775807) (hto0:∀ i (h:i<l.length),l[i].to.length<=9223372036854775807/\l[i].tag.length<=9223372036854775807):Pu Tryz.prog 27 [cT l] (boo (decide (SmM l))):=by
 refine pv Tryz.func27 ?_;repeat' ((conv=>whnf);first|exact kQ|(refine bk ?_ ?_<;>intro _<;>try exact exo)|refine stq ?_)
 refine aG.by aB T0 (λk:Nat=>⟨tmp 33 [(0,cT l),(3,i64 (k:Int))],⟨0,[]⟩⟩)
  (λk=>(k<=l.length/\k<=30)/\∀ i (h:i<l.length),i<k->(i<30->l[i].to.length<=65/\l[i].tag.length<=40)) (λk=>l.length-k) 0 ⟨om,λ_ _ h=>om⟩ ?_ ?_
 .exact lq0
 intro k ⟨⟨h3,h5⟩,h4⟩;by_cases hk:k<l.length
 .have hto:=(hto0 k hk).1;have htg:=(hto0 k hk).2;by_cases hk3:k<30
  .repeat' ((conv=>whnf);first|exact kQ|(refine bk ?_ ?_<;>intro _<;>try exact exo)|refine stq ?_)
   all_goals(conv=>whnf)
   all_goals first
    | exact aD.no (λhc=>by have:=hc.1 k hk hk3;omega)
    | (refine⟨k+1,⟨⟨om,om⟩,aj hk h4 (λ_=>om)⟩,om,?_⟩
       exact lq0)
  .repeat' ((conv=>whnf);first|exact kQ|(refine bk ?_ ?_<;>intro _<;>try exact exo)|refine stq ?_)
   all_goals(conv=>whnf)
   all_goals first
    | exact aD.no (λhc=>by have:=hc.2;omega)
    | exact aD.yes ⟨λi h hi=>h4 i h om hi,om⟩
 .repeat' ((conv=>whnf);first|exact kQ|(refine bk ?_ ?_<;>intro _<;>try exact exo)|refine stq ?_)
  all_goals(conv=>whnf)
  all_goals first
   | exact aD.no (λhc=>by have:=hc.2;omega)
   | exact aD.yes ⟨λi h hi=>h4 i h om hi,om⟩
end
section
theorem xHL.rbX {p:Prop}(h:p:=by first|exact Rb.cells (Rds.same (cV _)) rfl|fail):p:=h
open xHL
variable [GT]
theorem EH {Q:Nat->Prop}{k:Nat}(h:∀ i,i<k->Q i) (h0:Q k):∀ i,i<k+1->Q i:=λi hi=>by
 rcases(by omega:i<k\/i=k) with h1|rfl
 .exact h i h1
 .exact h0
theorem F3 {d:Db}(ho:d.ok):Pu Tryz.prog 9 [dbD d] (boo (decide (SmD d))):=by
 have hcl:=ho.classes;refine pv Tryz.func9 ?_;repeat' ((conv=>whnf);first|exact kQ|(refine bk ?_ ?_<;>intro _<;>try exact exo)|refine stq ?_)
 all_goals(conv=>whnf)
 all_goals first
  | exact aD.no (λhc=>by have:=hc.1;omega)
  | skip
 refine aG.by aB T0 (λk:Nat=>⟨tmp 49 [(1,.ptr 0 0),(3,i64 (k:Int))],⟨1,[(0,.cells (dbC d) true)]⟩⟩)
  (λk=>k<=7/\∀ i,i<k->(prop d i).names.length<=30/\(prop d i).spans.length<=16) (λk=>7-k) 0 ⟨om,λ_ h=>om⟩ ?_ ?_
 .exact lq [(0,_)] []
 intro k ⟨h3,h4⟩;by_cases hk:k<7
 .have hp:=iD d k hk;have hn:=(ho.prop k).names;have hsp:=(ho.prop k).spans;repeat' ((conv=>whnf);first|exact kQ|(refine bk ?_ ?_<;>intro _<;>try exact exo)|refine stq ?_|refine cp hp ?_|fail)
  all_goals(conv=>whnf)
  all_goals first
   | exact aD.no (λhc=>by have:=hc.2.1 k hk;omega)
   | (refine⟨k+1,⟨om,EH h4 om⟩,om,?_⟩
      exact lq [(0,_)] [])
 have g1:=λi (hi:i<7)=>h4 i om
 repeat' ((conv=>whnf);first|exact kQ|(refine bk ?_ ?_<;>intro _<;>try exact exo)|refine stq ?_|fail)
 refine aG.by aB T0 (λk:Nat=>⟨tmp 49 [(1,.ptr 0 0),(5,i64 (k:Int))],⟨1,[(0,.cells (dbC d) true)]⟩⟩)
  (λk=>k<=6/\∀ i,i<k->(CH d i).length<=12) (λk=>6-k) 0 ⟨om,λ_ h=>om⟩ ?_ ?_
 .exact lq [(0,_)] []
 intro k ⟨h3,h4⟩;by_cases hk:k<6
 .have hp:=mD d k hk;repeat' ((conv=>whnf);first|exact kQ|(refine bk ?_ ?_<;>intro _<;>try exact exo)|refine stq ?_|refine cp hp ?_|refine cd EJ (λ_=>?_) (λ_=>?_)|fail)
  all_goals(conv=>whnf)
  all_goals first
   | exact aD.no (λhc=>by have:=hc.2.2.1 k hk;omega)
   | (refine⟨k+1,⟨om,EH h4 om⟩,om,?_⟩
      exact lq [(0,_)] [])
 have g2:=λi (hi:i<6)=>h4 i om
 repeat' ((conv=>whnf);first|exact kQ|(refine bk ?_ ?_<;>intro _<;>try exact exo)|refine stq ?_|fail)
 refine aG.by aB T0 (λk:Nat=>⟨tmp 49 [(1,.ptr 0 0),(6,i64 (k:Int))],⟨1,[(0,.cells (dbC d) true)]⟩⟩)
  (λk=>k<=21/\∀ i,i<k->SmM (gB d i)) (λk=>21-k) 0 ⟨om,λ_ h=>om⟩ ?_ ?_
 .exact lq [(0,_)] []
 intro k ⟨h3,h4⟩;have hfl:am.length=21:=rfl;by_cases hk:k<21
 .have hp:=mE d k hk;have hm:=FD (l:=gB d k) (ho.maps k).1 (ho.maps k).2;repeat' ((conv=>whnf);first|exact kQ|(refine bk ?_ ?_<;>intro _<;>try exact exo)|refine stq ?_|refine cp az ?_|refine cp hp ?_|refine cd hm (λ_=>?_) (λ_=>?_)|fail)
  all_goals(conv=>whnf)
  all_goals first
   | exact aD.no (λhc=>by have:=hc.2.2.2 k hk;contradiction)
   | (refine⟨k+1,⟨om,EH h4 asm⟩,om,?_⟩
      exact lq [(0,_)] [])
 repeat' ((conv=>whnf);first|exact kQ|(refine bk ?_ ?_<;>intro _<;>try exact exo)|refine stq ?_|refine cp az ?_|fail)
 (conv=>whnf)
 exact aD.yes ⟨om,g1,g2,λi hi=>h4 i om⟩
end
end Go.Proofs.YtlimkdlhldlolaaGreatDoor
