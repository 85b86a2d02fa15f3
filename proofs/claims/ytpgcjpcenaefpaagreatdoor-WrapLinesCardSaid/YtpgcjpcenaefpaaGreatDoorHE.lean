/-
  Contracts of functions over data: valid mappings of the reference.
-/
import Derived.Test.YtpgcjpcenaefpaaGreatDoorH5
import Derived.Test.YtpgcjpcenaefpaaGreatDoorH8
set_option linter.unusedSectionVars false
namespace Go.Proofs.YtpgcjpcenaefpaaGreatDoor
section
open Go Go.Am Classical
set_option maxRecDepth 100000
theorem xHE.rbX {p:Prop}(h:p:=by first|exact Rb.cells (Rds.same (qd _)) rfl|fail):p:=h
open xHE
variable [GT]
theorem IG {m:Mpg}(hm:m.to.length<=9223372036854775807):Pu Tryz.prog 124 [.agg (iu m)] (boo (decide (kj m))):=by
 refine pv Tryz.func124 ?_;repeat' ((conv=>whnf);first|exact kQ|(refine bk ?_ ?_<;>intro _<;>try exact exo)|refine stq ?_)
 refine aG.by aB T0 (λk:Nat=>⟨tmp 21 [(1,.ptr 0 0),(3,i64 (k:Int))],⟨1,[(0,.cells (iu m) true)]⟩⟩)
  (λk=>k<=m.to.length/\∀ i (h:i<m.to.length),i<k->cpQ m.to[i]) (λk=>m.to.length-k) 0 ⟨om,λ_ _ h=>om⟩ ?_ ?_
 .exact lq [(0,_)] []
 intro k ⟨h3,h4⟩;by_cases hk:k<m.to.length
 .repeat' ((conv=>whnf);first|exact kQ|(refine bk ?_ ?_<;>intro _<;>try exact exo)|refine stq ?_|refine cd fF (λ_=>?_) (λ_=>?_)|fail)
  all_goals(conv=>whnf)
  all_goals first
   | exact aC.no (λhc=>by rename_i h;exact h (hc.2 k hk))
   | (refine⟨k+1,⟨om,ag om h4 asm⟩,om,?_⟩
      exact lq [(0,_)] [])
 .repeat' ((conv=>whnf);first|exact kQ|(refine bk ?_ ?_<;>intro _<;>try exact exo)|refine stq ?_|refine cd fF (λ_=>?_) (λ_=>?_)|fail)
  all_goals(conv=>whnf)
  all_goals first
   | exact aC.no (λhc=>by rename_i h;exact h hc.1)
   | exact aC.yes ⟨asm,bh om h4⟩
theorem F7 {a b:Mpg}:Pu Tryz.prog 93 [.agg (iu a),.agg (iu b)] (boo (decide (bef a b))):=by
 refine pv Tryz.func93 ?_;repeat' ((conv=>whnf);first|exact kQ|(refine bk ?_ ?_<;>intro _<;>try exact exo)|refine stq ?_)
 all_goals(conv=>whnf)
 all_goals first
  | exact aC.yes (.inl om)
  | exact aC.yes (.inr ⟨om,asm⟩)
  | exact aC.no (by rintro(h|⟨h,h'⟩)<;>first|omega|contradiction)
theorem Gj {l:List Mpg}(hlen:l.length<=9223372036854775806):Pu Tryz.prog 126 [cQ l] (boo (decide (Tw l))):=by
 refine pv Tryz.func126 ?_;repeat' ((conv=>whnf);first|exact kQ|(refine bk ?_ ?_<;>intro _<;>try exact exo)|refine stq ?_)
 refine aG.by aB T0 (λk:Nat=>⟨tmp 40 [(0,cQ l),(3,i64 (k:Int))],⟨0,[]⟩⟩)
  (λk=>k<=l.length/\∀ i (h:i<l.length),i<k->∀ j (hj:j<i),¬(l[i].frm=(l[j]'(by omega)).frm/\l[i].tag=(l[j]'(by omega)).tag)) (λk=>l.length-k) 0 ⟨om,λ_ _ h=>om⟩ ?_ ?_
 .exact lq0
 intro k ⟨h3,h4⟩;by_cases hk:k<l.length
 .repeat' ((conv=>whnf);first|exact kQ|(refine bk ?_ ?_<;>intro _<;>try exact exo)|refine stq ?_|fail)
  refine aG.by aB T0 (λj:Nat=>⟨tmp 40 [(0,cQ l),(3,i64 (k:Int)),(4,i64 (j:Int))],⟨0,[]⟩⟩)
   (λj=>j<=k/\∀ i (h:i<k),i<j->¬(l[k].frm=(l[i]'(by omega)).frm/\l[k].tag=(l[i]'(by omega)).tag)) (λj=>k-j) 0 ⟨om,λ_ _ h=>om⟩ ?_ ?_
  .exact lq0
  intro j ⟨h5,h6⟩;repeat' ((conv=>whnf);first|refine Idx.atS (sz:=3) (c:=iu) (by intro _;rfl) j om om ?_|refine Idx.atS (sz:=3) (c:=iu) (by intro _;rfl) k om om ?_|exact kQ|(refine bk ?_ ?_<;>intro _<;>try exact exo)|refine stq ?_)
  all_goals(conv=>whnf)
  all_goals first
   | exact aC.yes ⟨k,hk,j,om,asm,asm⟩
   | (refine⟨j+1,⟨om,ag om h6 (λhc=>by first|exact absurd hc.1 asm|exact absurd hc.2 asm)⟩,om,?_⟩
      exact lq0)
   | (refine⟨k+1,⟨om,ag om h4 (λi hi=>h6 i hi om)⟩,om,?_⟩
      exact lq0)
 .repeat' ((conv=>whnf);first|exact kQ|(refine bk ?_ ?_<;>intro _<;>try exact exo)|refine stq ?_)
  all_goals(conv=>whnf)
  exact aC.no (λ⟨i,hi,j,hj,e⟩=>h4 i hi om j hj e)
noncomputable def uR (l:List Mpg):Int:=if db l=0 then(if Tw l then 5 else 0) else db l
theorem uE {l:List Mpg}{e:Int}(h:db l=e) (h0:e≠0):uR l=e:=by rw[uR,if_neg om,h]
theorem uns_c {l:List Mpg}(ho:GL l):Pu Tryz.prog 92 [cQ l] (i64 (uR l)):=by
 have hlen:=ho.len;refine pv Tryz.func92 ?_;repeat' ((conv=>whnf);first|exact kQ|(refine bk ?_ ?_<;>intro _<;>try exact exo)|refine stq ?_)
 refine aG.by aB T0 (λk:Nat=>⟨tmp 54 [(0,cQ l),(3,i64 (k:Int))],⟨0,[]⟩⟩)
  (λk=>k<=l.length/\∀ i (h:i<l.length),i<k->kj l[i]) (λk=>l.length-k) 0 ⟨om,λ_ _ h=>om⟩ ?_ ?_
 .exact lq0
 intro k ⟨h3,h4⟩;by_cases hk:k<l.length
 .have hto:=ho.to k hk;repeat' ((conv=>whnf);first|exact kQ|(refine bk ?_ ?_<;>intro _<;>try exact exo)|refine stq ?_|refine cd (IG sd) (λ_=>?_) (λ_=>?_)|fail)
  all_goals(conv=>whnf)
  all_goals first
   | exact aC.int (uE (pE1 hk asm) om).symm
   | (refine⟨k+1,⟨om,ag om h4 asm⟩,om,?_⟩
      exact lq0)
 .have g1:=bh (by omega:l.length<=k) h4;repeat' ((conv=>whnf);first|exact kQ|(refine bk ?_ ?_<;>intro _<;>try exact exo)|refine stq ?_|fail)
  refine aG.by aB T0 (λk:Nat=>⟨tmp 54 [(0,cQ l),(4,i64 (k:Int))],⟨0,[]⟩⟩)
   (λk=>k<=l.length/\∀ i (h:i<l.length),i<k->l[i].to.length<=64) (λk=>l.length-k) 0 ⟨om,λ_ _ h=>om⟩ ?_ ?_
  .exact lq0
  intro k ⟨h3,h4⟩;by_cases hk:k<l.length
  .have hto:=ho.to k hk;repeat' ((conv=>whnf);first|exact kQ|(refine bk ?_ ?_<;>intro _<;>try exact exo)|refine stq ?_)
   all_goals(conv=>whnf)
   all_goals first
    | exact aC.int (uE (pE2 g1 hk om) om).symm
    | (refine⟨k+1,⟨om,ag om h4 om⟩,om,?_⟩
       exact lq0)
  .have g2:=bh (by omega:l.length<=k) h4;repeat' ((conv=>whnf);first|exact kQ|(refine bk ?_ ?_<;>intro _<;>try exact exo)|refine stq ?_|fail)
   refine aG.by aB T0 (λk:Nat=>⟨tmp 54 [(0,cQ l),(5,i64 (k:Int))],⟨0,[]⟩⟩)
    (λk=>k<=l.length/\∀ i (h:i<l.length),i<k->Dm l[i]) (λk=>l.length-k) 0 ⟨om,λ_ _ h=>om⟩ ?_ ?_
   .exact lq0
   intro k ⟨h3,h4⟩;by_cases hk:k<l.length
   .have htg:=ho.tag k hk;repeat' ((conv=>whnf);first|exact kQ|(refine bk ?_ ?_<;>intro _<;>try exact exo)|refine stq ?_|refine cd (HC sd) (λ_=>?_) (λ_=>?_)|fail)
    all_goals(conv=>whnf)
    all_goals first
     | exact aC.int (uE (pE6 g1 g2 hk (by rintro(h|h)<;>first|contradiction|exact absurd h asm)) om).symm
     | (refine⟨k+1,⟨om,ag om h4 (by first|exact .inl asm|exact .inr asm)⟩,om,?_⟩
        exact lq0)
   .repeat' ((conv=>whnf);first|exact kQ|(refine bk ?_ ?_<;>intro _<;>try exact exo)|refine stq ?_|refine cd (Gj sd) (λ_=>?_) (λ_=>?_)|fail)
    all_goals(conv=>whnf)
    all_goals first
     | exact aC.int (by rename_i h;rw[uR,if_pos (pE0 g1 g2 (bh om h4)),if_pos h])
     | exact aC.int (by rename_i h;rw[uR,if_pos (pE0 g1 g2 (bh om h4)),if_neg h])
theorem sw {l:List Mpg}(ho:GL l):∃ e:Int,Pu Tryz.prog 68 [cQ l] (i64 e)/\(e=0↔MOk l):=by
 have hlen:=ho.len;have hu:=uns_c ho;by_cases h0:uR l=0
 .rw[h0] at hu
  have hp:db l=0:=by
   rw[uR] at h0;split at h0
   .assumption
   .exact h0
  refine⟨if Asc l then 0 else 4,?_,λh=>⟨hp,by split at h<;>first|assumption|omega⟩,λh=>by rw[if_pos h.2]⟩;refine pv Tryz.func68 ?_;repeat' ((conv=>whnf);first|exact kQ|(refine bk ?_ ?_<;>intro _<;>try exact exo)|refine stq ?_|refine cp hu ?_|fail)
  refine aG.by aB T0 (λk:Nat=>⟨tmp 27 [(0,cQ l),(4,i64 ((k+1:Nat):Int))],⟨0,[]⟩⟩)
   (λk=>k<=l.length/\∀ i (h:i<l.length),i<=k->∀ h0:i≠0,bef (l[i-1]'(by omega)) l[i]) (λk=>l.length-k) 0 ⟨om,λi h hi h0=>om⟩ ?_ ?_
  .exact lq0
  intro k ⟨h3,h4⟩;by_cases hk:k+1<l.length
  .repeat' ((conv=>whnf);first|refine Idx.atS (sz:=3) (c:=iu) (by intro _;rfl) k om om ?_|refine Idx.atS (sz:=3) (c:=iu) (by intro _;rfl) (k+1) om om ?_|exact kQ|(refine bk ?_ ?_<;>intro _<;>try exact exo)|refine stq ?_|refine cd F7 (λ_=>?_) (λ_=>?_)|fail)
   all_goals(conv=>whnf)
   all_goals first
    | exact aC.int (by rename_i hb;rw[if_neg (λha:Asc l=>hb (by have:=ha (k+1) hk om;simpa using this))])
    | (rename_i hb
       refine⟨k+1,⟨om,λi h hi h0=>(Decidable.em (i=k+1)).elim (λhe=>by subst he;simpa using hb) (λhe=>h4 i h om h0)⟩,om,?_⟩
       exact lq0)
  .repeat' ((conv=>whnf);first|exact kQ|(refine bk ?_ ?_<;>intro _<;>try exact exo)|refine stq ?_)
   all_goals(conv=>whnf)
   have ha:Asc l:=λi h h0=>h4 i h om h0
   exact aC.int (by rw[if_pos ha])
 .refine⟨uR l,?_,λh=>absurd h h0,λh=>by rw[uR,if_pos h.1,if_neg h.2.once]⟩;refine pv Tryz.func68 ?_;repeat' ((conv=>whnf);first|exact kQ|(refine bk ?_ ?_<;>intro _<;>try exact exo)|refine stq ?_|refine cp hu ?_|fail)
  all_goals(conv=>whnf)
  exact aC.same rfl rfl
end
section
open Go Go.Am Classical
set_option maxRecDepth 100000
variable [GT]
theorem aw:Pu Tryz.prog 45 [] (strs ah):=by
 refine pv Tryz.func45 ?_;repeat' ((conv=>whnf);first|exact kQ|(refine bk ?_ ?_<;>intro _<;>try exact exo)|refine stq ?_)
 all_goals(conv=>whnf)
 exact⟨Rd.frz rfl rfl (kD rfl) (Rds.eqs rfl rfl)⟩
set_option maxHeartbeats 8000000 in
theorem iE (d:Db):∀ k:Nat,k<7->Pu Tryz.prog 47 [dbD d,i64 (k:Int)] (bV (prop d k)):=by
 intro k hk;have hn:=io (prop d k);rcases(by omega:k=0\/k=1\/k=2\/k=3\/k=4\/k=5\/k=6) with rfl|rfl|rfl|rfl|rfl|rfl|rfl
 all_goals
  refine pv Tryz.func47 ?_;repeat' ((conv=>whnf);first|exact kQ|(refine bk ?_ ?_<;>intro _<;>try exact exo)|refine stq ?_)
  all_goals(conv=>whnf)
  exact⟨Rd.eqd rfl hn⟩
theorem lC (l:List Rng):aK (r8 l)=true:=by simp[aK,aF,am]
set_option maxHeartbeats 8000000 in
theorem lv (d:Db):∀ k:Nat,k<6->Pu Tryz.prog 49 [dbD d,i64 (k:Int)] (r8 (Bz d k)):=by
 intro k hk;have hn:=lC (Bz d k);rcases(by omega:k=0\/k=1\/k=2\/k=3\/k=4\/k=5) with rfl|rfl|rfl|rfl|rfl|rfl
 all_goals
  refine pv Tryz.func49 ?_;repeat' ((conv=>whnf);first|exact kQ|(refine bk ?_ ?_<;>intro _<;>try exact exo)|refine stq ?_)
  all_goals(conv=>whnf)
  exact⟨Rd.eqd rfl hn⟩
set_option maxHeartbeats 8000000 in
theorem lw (d:Db):∀ k:Nat,k<21->Pu Tryz.prog 51 [dbD d,i64 (k:Int)] (cQ (gD d k)):=by
 intro k hk;have hn:=cC (gD d k);rcases(by omega:k=0\/k=1\/k=2\/k=3\/k=4\/k=5\/k=6\/k=7\/k=8\/k=9\/k=10\/k=11\/k=12\/k=13\/k=14\/k=15\/k=16\/k=17\/k=18\/k=19\/k=20) with rfl|rfl|rfl|rfl|rfl|rfl|rfl|rfl|rfl|rfl|rfl|rfl|rfl|rfl|rfl|rfl|rfl|rfl|rfl|rfl|rfl
 all_goals
  refine pv Tryz.func51 ?_;repeat' ((conv=>whnf);first|refine Br.strF rfl ?_|refine Br.strT rfl ?_|refine Idx.at (f:=D.str) (l:=ah) _ rfl (kD rfl) ?_|exact kQ|(refine bk ?_ ?_<;>intro _<;>try exact exo)|refine stq ?_|refine cp aw ?_|fail)
  all_goals(conv=>whnf)
  exact⟨Rd.eqd rfl hn⟩
def sof (k:Nat):Int:=([-1,-1,-1,-1,-1,-1,-1,-1,-1,-1,0,-1,-1,-1,-1,1,2,3,4,5,-1]:List Int).getD k 0
set_option maxHeartbeats 8000000 in
theorem dv:∀ k:Nat,k<21->Pu Tryz.prog 66 [.str (iJ k)] (i64 (sof k)):=by
 intro k hk;rcases(by omega:k=0\/k=1\/k=2\/k=3\/k=4\/k=5\/k=6\/k=7\/k=8\/k=9\/k=10\/k=11\/k=12\/k=13\/k=14\/k=15\/k=16\/k=17\/k=18\/k=19\/k=20) with rfl|rfl|rfl|rfl|rfl|rfl|rfl|rfl|rfl|rfl|rfl|rfl|rfl|rfl|rfl|rfl|rfl|rfl|rfl|rfl|rfl
 all_goals
  refine pv Tryz.func66 ?_;repeat' ((conv=>whnf);first|refine Br.strF rfl ?_|refine Br.strT rfl ?_|exact kQ|(refine bk ?_ ?_<;>intro _<;>try exact exo)|refine stq ?_)
  all_goals(conv=>whnf)
  exact⟨Rd.eqd rfl rfl⟩
theorem Af {n:Int}:Pu Tryz.prog 44 [i64 n] (boo (decide (uP n))):=by
 refine pv Tryz.func44 ?_;repeat' ((conv=>whnf);first|exact kQ|(refine bk ?_ ?_<;>intro _<;>try exact exo)|refine stq ?_)
 all_goals(conv=>whnf)
 all_goals first
  | exact aC.yes ⟨om,om⟩
  | exact aC.no (λhc=>by have:=hc.1;have:=hc.2;omega)
theorem rcls_c {l:List Spn}(hl:l.length<=9223372036854775807):Pu Tryz.prog 65 [cf l] (boo (decide (ClV l))):=by
 refine pv Tryz.func65 ?_;repeat' ((conv=>whnf);first|exact kQ|(refine bk ?_ ?_<;>intro _<;>try exact exo)|refine stq ?_)
 refine aG.by aB T0 (λk:Nat=>⟨tmp 76 [(0,cf l),(3,i64 (k:Int))],⟨0,[]⟩⟩)
  (λk=>k<=l.length/\∀ i (h:i<l.length),i<k->ClQ l i l[i]) (λk=>l.length-k) 0 ⟨om,λ_ _ h=>om⟩ ?_ ?_
 .exact lq0
 intro k ⟨h3,h4⟩;by_cases hk:k=0
 .subst hk;repeat' ((conv=>whnf);first|exact kQ|(refine bk ?_ ?_<;>intro _<;>try exact exo)|refine stq ?_)
  all_goals(conv=>whnf)
  all_goals first
   | exact aC.no (λhc=>by have:=(hc 0 om).1;omega)
   | exact aC.yes (bh om h4)
   | (refine⟨0+1,⟨om,ag om h4 ⟨om,λh=>absurd rfl h⟩⟩,om,?_⟩
      exact lq0)
 .by_cases hk2:k<l.length
  .have h5:=h4 (k-1) om om;have h6:=h5.1;have e:l.getD (k-1) default=l[k-1]:=aI om;repeat' ((conv=>whnf);first|exact kQ|(refine bk ?_ ?_<;>intro _<;>try exact exo)|refine stq ?_|refine Idx.atS (by intro _;rfl) (k-1) om om ?_)
   all_goals(conv=>whnf)
   all_goals first
    | exact aC.no (λhc=>by have h7:=hc k om;have:=h7.1;have:=h7.2 hk;rw[e] at this;omega)
    | (refine⟨k+1,⟨om,ag om h4 ⟨om,λ_=>by rw[e];omega⟩⟩,om,?_⟩
       exact lq0)
  .repeat' ((conv=>whnf);first|exact kQ|(refine bk ?_ ?_<;>intro _<;>try exact exo)|refine stq ?_)
   all_goals(conv=>whnf)
   exact aC.yes (bh om h4)
theorem Dx {l:List Rng}:Pu Tryz.prog 48 [r8 l] (boo (decide (l.length<=12))):=by
 refine pv Tryz.func48 ?_;repeat' ((conv=>whnf);first|exact kQ|(refine bk ?_ ?_<;>intro _<;>try exact exo)|refine stq ?_)
 all_goals(conv=>whnf)
 all_goals first
  | exact aC.yes om
  | exact aC.no om
theorem Ep {l:List Mpg}(hlen:l.length<=9223372036854775807) (hto0:∀ i (h:i<l.length),l[i].to.length<=9223372036854775807/\l[i].tag.length<=9223372036854775807):Pu Tryz.prog 50 [cQ l] (boo (decide (SmM l))):=by
 refine pv Tryz.func50 ?_;repeat' ((conv=>whnf);first|exact kQ|(refine bk ?_ ?_<;>intro _<;>try exact exo)|refine stq ?_)
 refine aG.by aB T0 (λk:Nat=>⟨tmp 33 [(0,cQ l),(3,i64 (k:Int))],⟨0,[]⟩⟩)
  (λk=>(k<=l.length/\k<=30)/\∀ i (h:i<l.length),i<k->(i<30->l[i].to.length<=65/\l[i].tag.length<=40)) (λk=>l.length-k) 0 ⟨om,λ_ _ h=>om⟩ ?_ ?_
 .exact lq0
 intro k ⟨⟨h3,h5⟩,h4⟩;by_cases hk:k<l.length
 .have hto:=(hto0 k hk).1;have htg:=(hto0 k hk).2;by_cases hk3:k<30
  .repeat' ((conv=>whnf);first|exact kQ|(refine bk ?_ ?_<;>intro _<;>try exact exo)|refine stq ?_)
   all_goals(conv=>whnf)
   all_goals first
    | exact aC.no (λhc=>by have:=hc.1 k hk hk3;omega)
    | (refine⟨k+1,⟨⟨om,om⟩,ag hk h4 (λ_=>om)⟩,om,?_⟩
       exact lq0)
  .repeat' ((conv=>whnf);first|exact kQ|(refine bk ?_ ?_<;>intro _<;>try exact exo)|refine stq ?_)
   all_goals(conv=>whnf)
   all_goals first
    | exact aC.no (λhc=>by have:=hc.2;omega)
    | exact aC.yes ⟨λi h hi=>h4 i h om hi,om⟩
 .repeat' ((conv=>whnf);first|exact kQ|(refine bk ?_ ?_<;>intro _<;>try exact exo)|refine stq ?_)
  all_goals(conv=>whnf)
  all_goals first
   | exact aC.no (λhc=>by have:=hc.2;omega)
   | exact aC.yes ⟨λi h hi=>h4 i h om hi,om⟩
end
section
open Go Go.Am Classical
set_option maxRecDepth 100000
theorem xHL.rbX {p:Prop}(h:p:=by first|exact Rb.cells (Rds.same (cS _)) rfl|fail):p:=h
open xHL
variable [GT]
theorem Dv {Q:Nat->Prop}{k:Nat}(h:∀ i,i<k->Q i) (h0:Q k):∀ i,i<k+1->Q i:=λi hi=>by
 rcases(by omega:i<k\/i=k) with h1|rfl
 .exact h i h1
 .exact h0
theorem Fg {d:Db}(ho:d.ok):Pu Tryz.prog 24 [dbD d] (boo (decide (SmD d))):=by
 have hcl:=ho.classes;refine pv Tryz.func24 ?_;repeat' ((conv=>whnf);first|exact kQ|(refine bk ?_ ?_<;>intro _<;>try exact exo)|refine stq ?_)
 all_goals(conv=>whnf)
 all_goals first
  | exact aC.no (λhc=>by have:=hc.1;omega)
  | skip
 refine aG.by aB T0 (λk:Nat=>⟨tmp 49 [(1,.ptr 0 0),(3,i64 (k:Int))],⟨1,[(0,.cells (dbC d) true)]⟩⟩)
  (λk=>k<=7/\∀ i,i<k->(prop d i).names.length<=30/\(prop d i).spans.length<=16) (λk=>7-k) 0 ⟨om,λ_ h=>om⟩ ?_ ?_
 .exact lq [(0,_)] []
 intro k ⟨h3,h4⟩;by_cases hk:k<7
 .have hp:=iE d k hk;have hn:=(ho.prop k).names;have hsp:=(ho.prop k).spans;repeat' ((conv=>whnf);first|exact kQ|(refine bk ?_ ?_<;>intro _<;>try exact exo)|refine stq ?_|refine cp hp ?_|fail)
  all_goals(conv=>whnf)
  all_goals first
   | exact aC.no (λhc=>by have:=hc.2.1 k hk;omega)
   | (refine⟨k+1,⟨om,Dv h4 om⟩,om,?_⟩
      exact lq [(0,_)] [])
 have g1:=λi (hi:i<7)=>h4 i om
 repeat' ((conv=>whnf);first|exact kQ|(refine bk ?_ ?_<;>intro _<;>try exact exo)|refine stq ?_|fail)
 refine aG.by aB T0 (λk:Nat=>⟨tmp 49 [(1,.ptr 0 0),(5,i64 (k:Int))],⟨1,[(0,.cells (dbC d) true)]⟩⟩)
  (λk=>k<=6/\∀ i,i<k->(Bz d i).length<=12) (λk=>6-k) 0 ⟨om,λ_ h=>om⟩ ?_ ?_
 .exact lq [(0,_)] []
 intro k ⟨h3,h4⟩;by_cases hk:k<6
 .have hp:=lv d k hk;repeat' ((conv=>whnf);first|exact kQ|(refine bk ?_ ?_<;>intro _<;>try exact exo)|refine stq ?_|refine cp hp ?_|refine cd Dx (λ_=>?_) (λ_=>?_)|fail)
  all_goals(conv=>whnf)
  all_goals first
   | exact aC.no (λhc=>by have:=hc.2.2.1 k hk;omega)
   | (refine⟨k+1,⟨om,Dv h4 om⟩,om,?_⟩
      exact lq [(0,_)] [])
 have g2:=λi (hi:i<6)=>h4 i om
 repeat' ((conv=>whnf);first|exact kQ|(refine bk ?_ ?_<;>intro _<;>try exact exo)|refine stq ?_|fail)
 refine aG.by aB T0 (λk:Nat=>⟨tmp 49 [(1,.ptr 0 0),(6,i64 (k:Int))],⟨1,[(0,.cells (dbC d) true)]⟩⟩)
  (λk=>k<=21/\∀ i,i<k->SmM (gD d i)) (λk=>21-k) 0 ⟨om,λ_ h=>om⟩ ?_ ?_
 .exact lq [(0,_)] []
 intro k ⟨h3,h4⟩;have hfl:ah.length=21:=rfl;by_cases hk:k<21
 .have hp:=lw d k hk;have hm:=Ep (l:=gD d k) (ho.maps k).1 (ho.maps k).2;repeat' ((conv=>whnf);first|exact kQ|(refine bk ?_ ?_<;>intro _<;>try exact exo)|refine stq ?_|refine cp aw ?_|refine cp hp ?_|refine cd hm (λ_=>?_) (λ_=>?_)|fail)
  all_goals(conv=>whnf)
  all_goals first
   | exact aC.no (λhc=>by have:=hc.2.2.2 k hk;contradiction)
   | (refine⟨k+1,⟨om,Dv h4 asm⟩,om,?_⟩
      exact lq [(0,_)] [])
 repeat' ((conv=>whnf);first|exact kQ|(refine bk ?_ ?_<;>intro _<;>try exact exo)|refine stq ?_|refine cp aw ?_|fail)
 all_goals(conv=>whnf)
 exact aC.yes ⟨om,g1,g2,λi hi=>h4 i om⟩
end
end Go.Proofs.YtpgcjpcenaefpaaGreatDoor
