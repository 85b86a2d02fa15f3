/-
  Contracts of functions over data: databases checked by the program.
-/
import Derived.Test.YtbmdndckndnehaaGreatDoorH5
import Derived.Test.YtbmdndckndnehaaGreatDoorHE
import Derived.Test.YtbmdndckndnehaaGreatDoorG0
import Derived.Test.YtbmdndckndnehaaGreatDoorAmF
set_option linter.unusedSectionVars false
namespace Go.Proofs.YtbmdndckndnehaaGreatDoor
section
open Go Go.Am Classical
set_option maxRecDepth 100000
theorem xHI.rdX {p:Prop}(h:p:=by first|exact Rd.frzp rfl rfl (Rds.eqs rfl (cR _))|exact Rd.int rfl|exact Rd.same (cR _)|fail):p:=h
open xHI
variable [GT]
theorem bL {a:Nat->Int}{n k:Nat}(hk:k<n) (h:∀ i,i<k->a i=0) (h0:a k≠0):gy ((List.range n).map a)=a k:=by
 have:=wG (l:=(List.range n).map a) (k:=k) (by simpa using hk) (λi hi hik=>by simpa using h i hik) (by simpa using h0)
 simpa using this
theorem lw {a:Nat->Int}{n:Nat}:gy ((List.range n).map a)=0↔∀ i,i<n->a i=0:=by
 rw[lv];constructor
 ·intro h i hi;have:=h i (by simpa using hi)
  simpa using this
 ·intro h i hi
  have:i<n:=by simpa using hi
  simpa using h i this
theorem de {a:Nat->Int}{k:Nat}(h:∀ i,i<k->a i=0) (h0:a k=0):∀ i,i<k+1->a i=0:=λi hi=>by
 rcases(by omega:i<k∨i=k) with h1|rfl
 ·exact h i h1
 ·exact h0
set_option maxHeartbeats 8000000 in
theorem GK {d:Db}{a:Nat->Int}(hc:∀ k,k<21->Pu Tryz.prog (fchk k) [.agg [.iptr ((dbC d).drop (foff k))]] (i64 (a k))):Pu Tryz.prog 51 [dbD d] (i64 (gy ((List.range 21).map a))):=by
 refine pv Tryz.func51 ?_;repeat' ((conv=>whnf);first|exact kQ|(refine bk ?_ ?_<;>intro _<;>try(exfalso;omega))|refine stq ?_|refine cp Ia ?_|fail)
 refine aH.by aB T0 (λk:Nat=>⟨tmp 19 [(1,.iptr (dbC d)),(6,strs ah),(7,i64 21),(8,i64 (k:Int))],⟨0,[]⟩⟩)
  (λk=>k<=21∧∀ i,i<k->a i=0) (λk=>21-k) 0 ⟨by omega,λ_ h=>by omega⟩ ?_ ?_
 ·exact lq [] [0]
 intro k ⟨h3,h4⟩;rcases(by omega:k=0∨k=1∨k=2∨k=3∨k=4∨k=5∨k=6∨k=7∨k=8∨k=9∨k=10∨k=11∨k=12∨k=13∨k=14∨k=15∨k=16∨k=17∨k=18∨k=19∨k=20∨k=21) with rfl|rfl|rfl|rfl|rfl|rfl|rfl|rfl|rfl|rfl|rfl|rfl|rfl|rfl|rfl|rfl|rfl|rfl|rfl|rfl|rfl|rfl
 ·
  have hf:=ce d 0 om;have hk:=hc 0 om;repeat' ((conv=>whnf);first|refine Idx.at (f:=D.str) (l:=ah) 0 rfl (kD rfl) ?_|exact kQ|(refine bk ?_ ?_<;>intro _<;>try(exfalso;omega))|refine stq ?_|refine cp hf ?_|refine cp hk ?_|fail)
  all_goals(conv=>whnf)
  all_goals first
   | exact aC.int (bL om h4 asm).symm
   | (refine⟨0+1,⟨by omega,de h4 om⟩,by omega,?_⟩
      exact lq0)
 ·
  have hf:=ce d 1 om;have hk:=hc 1 om;repeat' ((conv=>whnf);first|refine Idx.at (f:=D.str) (l:=ah) 1 rfl (kD rfl) ?_|exact kQ|(refine bk ?_ ?_<;>intro _<;>try(exfalso;omega))|refine stq ?_|refine cp hf ?_|refine cp hk ?_|fail)
  all_goals(conv=>whnf)
  all_goals first
   | exact aC.int (bL om h4 asm).symm
   | (refine⟨1+1,⟨by omega,de h4 om⟩,by omega,?_⟩
      exact lq0)
 ·
  have hf:=ce d 2 om;have hk:=hc 2 om;repeat' ((conv=>whnf);first|refine Idx.at (f:=D.str) (l:=ah) 2 rfl (kD rfl) ?_|exact kQ|(refine bk ?_ ?_<;>intro _<;>try(exfalso;omega))|refine stq ?_|refine cp hf ?_|refine cp hk ?_|fail)
  all_goals(conv=>whnf)
  all_goals first
   | exact aC.int (bL om h4 asm).symm
   | (refine⟨2+1,⟨by omega,de h4 om⟩,by omega,?_⟩
      exact lq0)
 ·
  have hf:=ce d 3 om;have hk:=hc 3 om;repeat' ((conv=>whnf);first|refine Idx.at (f:=D.str) (l:=ah) 3 rfl (kD rfl) ?_|exact kQ|(refine bk ?_ ?_<;>intro _<;>try(exfalso;omega))|refine stq ?_|refine cp hf ?_|refine cp hk ?_|fail)
  all_goals(conv=>whnf)
  all_goals first
   | exact aC.int (bL om h4 asm).symm
   | (refine⟨3+1,⟨by omega,de h4 om⟩,by omega,?_⟩
      exact lq0)
 ·
  have hf:=ce d 4 om;have hk:=hc 4 om;repeat' ((conv=>whnf);first|refine Idx.at (f:=D.str) (l:=ah) 4 rfl (kD rfl) ?_|exact kQ|(refine bk ?_ ?_<;>intro _<;>try(exfalso;omega))|refine stq ?_|refine cp hf ?_|refine cp hk ?_|fail)
  all_goals(conv=>whnf)
  all_goals first
   | exact aC.int (bL om h4 asm).symm
   | (refine⟨4+1,⟨by omega,de h4 om⟩,by omega,?_⟩
      exact lq0)
 ·
  have hf:=ce d 5 om;have hk:=hc 5 om;repeat' ((conv=>whnf);first|refine Idx.at (f:=D.str) (l:=ah) 5 rfl (kD rfl) ?_|exact kQ|(refine bk ?_ ?_<;>intro _<;>try(exfalso;omega))|refine stq ?_|refine cp hf ?_|refine cp hk ?_|fail)
  all_goals(conv=>whnf)
  all_goals first
   | exact aC.int (bL om h4 asm).symm
   | (refine⟨5+1,⟨by omega,de h4 om⟩,by omega,?_⟩
      exact lq0)
 ·
  have hf:=ce d 6 om;have hk:=hc 6 om;repeat' ((conv=>whnf);first|refine Idx.at (f:=D.str) (l:=ah) 6 rfl (kD rfl) ?_|exact kQ|(refine bk ?_ ?_<;>intro _<;>try(exfalso;omega))|refine stq ?_|refine cp hf ?_|refine cp hk ?_|fail)
  all_goals(conv=>whnf)
  all_goals first
   | exact aC.int (bL om h4 asm).symm
   | (refine⟨6+1,⟨by omega,de h4 om⟩,by omega,?_⟩
      exact lq0)
 ·
  have hf:=ce d 7 om;have hk:=hc 7 om;repeat' ((conv=>whnf);first|refine Idx.at (f:=D.str) (l:=ah) 7 rfl (kD rfl) ?_|exact kQ|(refine bk ?_ ?_<;>intro _<;>try(exfalso;omega))|refine stq ?_|refine cp hf ?_|refine cp hk ?_|fail)
  all_goals(conv=>whnf)
  all_goals first
   | exact aC.int (bL om h4 asm).symm
   | (refine⟨7+1,⟨by omega,de h4 om⟩,by omega,?_⟩
      exact lq0)
 ·
  have hf:=ce d 8 om;have hk:=hc 8 om;repeat' ((conv=>whnf);first|refine Idx.at (f:=D.str) (l:=ah) 8 rfl (kD rfl) ?_|exact kQ|(refine bk ?_ ?_<;>intro _<;>try(exfalso;omega))|refine stq ?_|refine cp hf ?_|refine cp hk ?_|fail)
  all_goals(conv=>whnf)
  all_goals first
   | exact aC.int (bL om h4 asm).symm
   | (refine⟨8+1,⟨by omega,de h4 om⟩,by omega,?_⟩
      exact lq0)
 ·
  have hf:=ce d 9 om;have hk:=hc 9 om;repeat' ((conv=>whnf);first|refine Idx.at (f:=D.str) (l:=ah) 9 rfl (kD rfl) ?_|exact kQ|(refine bk ?_ ?_<;>intro _<;>try(exfalso;omega))|refine stq ?_|refine cp hf ?_|refine cp hk ?_|fail)
  all_goals(conv=>whnf)
  all_goals first
   | exact aC.int (bL om h4 asm).symm
   | (refine⟨9+1,⟨by omega,de h4 om⟩,by omega,?_⟩
      exact lq0)
 ·
  have hf:=ce d 10 om;have hk:=hc 10 om;repeat' ((conv=>whnf);first|refine Idx.at (f:=D.str) (l:=ah) 10 rfl (kD rfl) ?_|exact kQ|(refine bk ?_ ?_<;>intro _<;>try(exfalso;omega))|refine stq ?_|refine cp hf ?_|refine cp hk ?_|fail)
  all_goals(conv=>whnf)
  all_goals first
   | exact aC.int (bL om h4 asm).symm
   | (refine⟨10+1,⟨by omega,de h4 om⟩,by omega,?_⟩
      exact lq0)
 ·
  have hf:=ce d 11 om;have hk:=hc 11 om;repeat' ((conv=>whnf);first|refine Idx.at (f:=D.str) (l:=ah) 11 rfl (kD rfl) ?_|exact kQ|(refine bk ?_ ?_<;>intro _<;>try(exfalso;omega))|refine stq ?_|refine cp hf ?_|refine cp hk ?_|fail)
  all_goals(conv=>whnf)
  all_goals first
   | exact aC.int (bL om h4 asm).symm
   | (refine⟨11+1,⟨by omega,de h4 om⟩,by omega,?_⟩
      exact lq0)
 ·
  have hf:=ce d 12 om;have hk:=hc 12 om;repeat' ((conv=>whnf);first|refine Idx.at (f:=D.str) (l:=ah) 12 rfl (kD rfl) ?_|exact kQ|(refine bk ?_ ?_<;>intro _<;>try(exfalso;omega))|refine stq ?_|refine cp hf ?_|refine cp hk ?_|fail)
  all_goals(conv=>whnf)
  all_goals first
   | exact aC.int (bL om h4 asm).symm
   | (refine⟨12+1,⟨by omega,de h4 om⟩,by omega,?_⟩
      exact lq0)
 ·
  have hf:=ce d 13 om;have hk:=hc 13 om;repeat' ((conv=>whnf);first|refine Idx.at (f:=D.str) (l:=ah) 13 rfl (kD rfl) ?_|exact kQ|(refine bk ?_ ?_<;>intro _<;>try(exfalso;omega))|refine stq ?_|refine cp hf ?_|refine cp hk ?_|fail)
  all_goals(conv=>whnf)
  all_goals first
   | exact aC.int (bL om h4 asm).symm
   | (refine⟨13+1,⟨by omega,de h4 om⟩,by omega,?_⟩
      exact lq0)
 ·
  have hf:=ce d 14 om;have hk:=hc 14 om;repeat' ((conv=>whnf);first|refine Idx.at (f:=D.str) (l:=ah) 14 rfl (kD rfl) ?_|exact kQ|(refine bk ?_ ?_<;>intro _<;>try(exfalso;omega))|refine stq ?_|refine cp hf ?_|refine cp hk ?_|fail)
  all_goals(conv=>whnf)
  all_goals first
   | exact aC.int (bL om h4 asm).symm
   | (refine⟨14+1,⟨by omega,de h4 om⟩,by omega,?_⟩
      exact lq0)
 ·
  have hf:=ce d 15 om;have hk:=hc 15 om;repeat' ((conv=>whnf);first|refine Idx.at (f:=D.str) (l:=ah) 15 rfl (kD rfl) ?_|exact kQ|(refine bk ?_ ?_<;>intro _<;>try(exfalso;omega))|refine stq ?_|refine cp hf ?_|refine cp hk ?_|fail)
  all_goals(conv=>whnf)
  all_goals first
   | exact aC.int (bL om h4 asm).symm
   | (refine⟨15+1,⟨by omega,de h4 om⟩,by omega,?_⟩
      exact lq0)
 ·
  have hf:=ce d 16 om;have hk:=hc 16 om;repeat' ((conv=>whnf);first|refine Idx.at (f:=D.str) (l:=ah) 16 rfl (kD rfl) ?_|exact kQ|(refine bk ?_ ?_<;>intro _<;>try(exfalso;omega))|refine stq ?_|refine cp hf ?_|refine cp hk ?_|fail)
  all_goals(conv=>whnf)
  all_goals first
   | exact aC.int (bL om h4 asm).symm
   | (refine⟨16+1,⟨by omega,de h4 om⟩,by omega,?_⟩
      exact lq0)
 ·
  have hf:=ce d 17 om;have hk:=hc 17 om;repeat' ((conv=>whnf);first|refine Idx.at (f:=D.str) (l:=ah) 17 rfl (kD rfl) ?_|exact kQ|(refine bk ?_ ?_<;>intro _<;>try(exfalso;omega))|refine stq ?_|refine cp hf ?_|refine cp hk ?_|fail)
  all_goals(conv=>whnf)
  all_goals first
   | exact aC.int (bL om h4 asm).symm
   | (refine⟨17+1,⟨by omega,de h4 om⟩,by omega,?_⟩
      exact lq0)
 ·
  have hf:=ce d 18 om;have hk:=hc 18 om;repeat' ((conv=>whnf);first|refine Idx.at (f:=D.str) (l:=ah) 18 rfl (kD rfl) ?_|exact kQ|(refine bk ?_ ?_<;>intro _<;>try(exfalso;omega))|refine stq ?_|refine cp hf ?_|refine cp hk ?_|fail)
  all_goals(conv=>whnf)
  all_goals first
   | exact aC.int (bL om h4 asm).symm
   | (refine⟨18+1,⟨by omega,de h4 om⟩,by omega,?_⟩
      exact lq0)
 ·
  have hf:=ce d 19 om;have hk:=hc 19 om;repeat' ((conv=>whnf);first|refine Idx.at (f:=D.str) (l:=ah) 19 rfl (kD rfl) ?_|exact kQ|(refine bk ?_ ?_<;>intro _<;>try(exfalso;omega))|refine stq ?_|refine cp hf ?_|refine cp hk ?_|fail)
  all_goals(conv=>whnf)
  all_goals first
   | exact aC.int (bL om h4 asm).symm
   | (refine⟨19+1,⟨by omega,de h4 om⟩,by omega,?_⟩
      exact lq0)
 ·
  have hf:=ce d 20 om;have hk:=hc 20 om;repeat' ((conv=>whnf);first|refine Idx.at (f:=D.str) (l:=ah) 20 rfl (kD rfl) ?_|exact kQ|(refine bk ?_ ?_<;>intro _<;>try(exfalso;omega))|refine stq ?_|refine cp hf ?_|refine cp hk ?_|fail)
  all_goals(conv=>whnf)
  all_goals first
   | exact aC.int (bL om h4 asm).symm
   | (refine⟨20+1,⟨by omega,de h4 om⟩,by omega,?_⟩
      exact lq0)
 ·repeat' ((conv=>whnf);first|exact kQ|(refine bk ?_ ?_<;>intro _<;>try(exfalso;omega))|refine stq ?_)
  all_goals(conv=>whnf)
  exact aC.int (lw.2 h4).symm
end
section
open Go Go.Am Classical
set_option maxRecDepth 100000
theorem xHJ.rbX {p:Prop}(h:p:=by first|exact Rb.cells (Rds.same (cR _)) rfl|fail):p:=h
open xHJ
section
variable [GT]
noncomputable def errs (d:Db) (em:Nat->Int):Nat->Int
 | 0=>if vH d.major∧vH d.minor then 0 else 1
 | 1=>if PrV d.cat then 0 else 11
 | 2=>if PrV d.wid then 0 else 11
 | 3=>if PrV d.scr then 0 else 11
 | 4=>if PrV d.gra then 0 else 11
 | 5=>if PrV d.wor then 0 else 11
 | 6=>if PrV d.sen then 0 else 11
 | 7=>if PrV d.lin then 0 else 11
 | 8=>if ClV d.classes then 0 else 11
 | 9=>em 9
 | 10=>if c8 d.excl then 0 else 11
 | 11=>em 11
 | 12=>em 12
 | 13=>em 13
 | 14=>em 14
 | 15=>if c8 d.cased then 0 else 11
 | 16=>if c8 d.ignor then 0 else 11
 | 17=>if c8 d.start then 0 else 11
 | 18=>if c8 d.cont then 0 else 11
 | 19=>if c8 d.medial then 0 else 11
 | _=>em 20
theorem ite0 {p:Prop} [Decidable p] {n:Int}(hn:n≠0):(if p then 0 else n)=0↔p:=by
 by_cases h:p<;>simp[h,hn]
theorem yP {d:Db}{em:Nat->Int}(hem:∀ k,em k=0↔MOk (gD d k)):∀ k,k<21->(errs d em k=0↔Jb d k):=by
 intro k hk;rcases(by omega:k=0∨k=1∨k=2∨k=3∨k=4∨k=5∨k=6∨k=7∨k=8∨k=9∨k=10∨k=11∨k=12∨k=13∨k=14∨k=15∨k=16∨k=17∨k=18∨k=19∨k=20) with rfl|rfl|rfl|rfl|rfl|rfl|rfl|rfl|rfl|rfl|rfl|rfl|rfl|rfl|rfl|rfl|rfl|rfl|rfl|rfl|rfl
 all_goals first
  | exact ite0 om
  | exact hem _
theorem SmD.maps {d:Db}(ho:d.ok) (hs:SmD d){k:Nat}(hk:k<21):G0 (gD d k):=⟨by have:=(hs.2.2.2 k hk).2;omega,λi h=>((ho.maps k).2 i h).1,λi h=>((ho.maps k).2 i h).2⟩
theorem xq {d:Db}{k:Nat}(hk:¬k<21):gD d k=gD d 20:=by
 unfold gD;split<;>first|omega|rfl
theorem pD {d:Db}(ho:d.ok) (hs:SmD d):∃ e:Int,Pu Tryz.prog 51 [dbD d] (i64 e)∧(e=0↔DbV d):=by
 have hm:∀ k,∃ e:Int,Pu Tryz.prog 312 [cP (gD d k)] (i64 e)∧(e=0↔MOk (gD d k)):=λk=>by
  by_cases hk:k<21
  ·exact xu (SmD.maps ho hs hk)
  ·rw[xq hk];exact xu (SmD.maps ho hs om)
 let em:Nat->Int:=λk=>Classical.choose (hm k)
 have h1:∀ k,Pu Tryz.prog 312 [cP (gD d k)] (i64 (em k)):=λk=>(Classical.choose_spec (hm k)).1
 have h2:∀ k,em k=0↔MOk (gD d k):=λk=>(Classical.choose_spec (hm k)).2
 have hr:∀ n,aE ((dbC d).drop n)=true:=λn=>ki n (cR d)
 refine⟨gy ((List.range 21).map (errs d em)),GK λk hk=>?_,?_⟩
 ·rcases(by omega:k=0∨k=1∨k=2∨k=3∨k=4∨k=5∨k=6∨k=7∨k=8∨k=9∨k=10∨k=11∨k=12∨k=13∨k=14∨k=15∨k=16∨k=17∨k=18∨k=19∨k=20) with rfl|rfl|rfl|rfl|rfl|rfl|rfl|rfl|rfl|rfl|rfl|rfl|rfl|rfl|rfl|rfl|rfl|rfl|rfl|rfl|rfl
  ·exact EG (hr 2)
  ·exact gZ (p:=d.cat) (ho.prop 0) (hr 4)
  ·exact gZ (p:=d.wid) (ho.prop 1) (hr 6)
  ·exact gZ (p:=d.scr) (ho.prop 2) (hr 8)
  ·exact gZ (p:=d.gra) (ho.prop 3) (hr 10)
  ·exact gZ (p:=d.wor) (ho.prop 4) (hr 12)
  ·exact gZ (p:=d.sen) (ho.prop 5) (hr 14)
  ·exact gZ (p:=d.lin) (ho.prop 6) (hr 16)
  ·exact GY ho.classes (hr 17)
  ·exact iy (l:=d.decomp) (h1 9) (hr 18)
  ·exact ic (l:=d.excl) (hs.2.2.1 0 om) (hr 19)
  ·exact iy (l:=d.lower) (h1 11) (hr 20)
  ·exact iy (l:=d.upper) (h1 12) (hr 21)
  ·exact iy (l:=d.title) (h1 13) (hr 22)
  ·exact iy (l:=d.fold) (h1 14) (hr 23)
  ·exact ic (l:=d.cased) (hs.2.2.1 1 om) (hr 24)
  ·exact ic (l:=d.ignor) (hs.2.2.1 2 om) (hr 25)
  ·exact ic (l:=d.start) (hs.2.2.1 3 om) (hr 26)
  ·exact ic (l:=d.cont) (hs.2.2.1 4 om) (hr 27)
  ·exact ic (l:=d.medial) (hs.2.2.1 5 om) (hr 28)
  ·exact iy (l:=d.confu) (h1 20) (hr 29)
 ·rw[lw];exact forall_congr' λk=>forall_congr' λhk=>yP h2 k hk
noncomputable def Hg (d:Db) (em:Nat->Int) (k:Nat):Int:=if k=0 then 0 else errs d em k
set_option maxHeartbeats 16000000 in
theorem DW {d:Db}(ho:d.ok) (hs:SmD d){em:Nat->Int}(hem:∀ k,Pu Tryz.prog 121 [cP (gD d k)] (i64 (em k))):∀ k:Nat,k<21->Pu Tryz.prog 94 [dbD d,i64 (k:Int)] (i64 (Hg d em k)):=by
 intro k hk;rcases(by omega:k=0∨k=1∨k=2∨k=3∨k=4∨k=5∨k=6∨k=7∨k=8∨k=9∨k=10∨k=11∨k=12∨k=13∨k=14∨k=15∨k=16∨k=17∨k=18∨k=19∨k=20) with rfl|rfl|rfl|rfl|rfl|rfl|rfl|rfl|rfl|rfl|rfl|rfl|rfl|rfl|rfl|rfl|rfl|rfl|rfl|rfl|rfl
 ·
  refine pv Tryz.func94 ?_;repeat' ((conv=>whnf);first|refine Br.strF rfl ?_|refine Br.strT rfl ?_|refine Idx.at (f:=D.str) (l:=ah) 0 rfl (kD rfl) ?_|exact kQ|(refine bk ?_ ?_<;>intro _<;>try(exfalso;omega))|refine stq ?_|refine cp ax ?_|fail)
  all_goals(conv=>whnf)
  all_goals first
   | (refine aC.int (Eq.symm ?_);show(if True then(0:Int) else 11)=0;exact if_pos asm)
   | (refine aC.int (Eq.symm ?_);show(if True then(0:Int) else 11)=11;exact if_neg asm)
   | exact aC.int rfl
 ·
  have h1:Pu Tryz.prog 59 [dbD d,i64 ((1:Nat)-1:Int)] (bn (prop d 0)):=iD d 0 om;have h2:=eK (ho.prop 0);refine pv Tryz.func94 ?_;repeat' ((conv=>whnf);first|refine Br.strF rfl ?_|refine Br.strT rfl ?_|refine Idx.at (f:=D.str) (l:=ah) 1 rfl (kD rfl) ?_|exact kQ|(refine bk ?_ ?_<;>intro _<;>try(exfalso;omega))|refine stq ?_|refine cp ax ?_|refine cp h1 ?_|refine cd h2 (λ_=>?_) (λ_=>?_)|fail)
  all_goals(conv=>whnf)
  all_goals first
   | (refine aC.int (Eq.symm ?_);show(if PrV d.cat then(0:Int) else 11)=0;exact if_pos asm)
   | (refine aC.int (Eq.symm ?_);show(if PrV d.cat then(0:Int) else 11)=11;exact if_neg asm)
   | exact aC.int rfl
 ·
  have h1:Pu Tryz.prog 59 [dbD d,i64 ((2:Nat)-1:Int)] (bn (prop d 1)):=iD d 1 om;have h2:=eK (ho.prop 1);refine pv Tryz.func94 ?_;repeat' ((conv=>whnf);first|refine Br.strF rfl ?_|refine Br.strT rfl ?_|refine Idx.at (f:=D.str) (l:=ah) 2 rfl (kD rfl) ?_|exact kQ|(refine bk ?_ ?_<;>intro _<;>try(exfalso;omega))|refine stq ?_|refine cp ax ?_|refine cp h1 ?_|refine cd h2 (λ_=>?_) (λ_=>?_)|fail)
  all_goals(conv=>whnf)
  all_goals first
   | (refine aC.int (Eq.symm ?_);show(if PrV d.wid then(0:Int) else 11)=0;exact if_pos asm)
   | (refine aC.int (Eq.symm ?_);show(if PrV d.wid then(0:Int) else 11)=11;exact if_neg asm)
   | exact aC.int rfl
 ·
  have h1:Pu Tryz.prog 59 [dbD d,i64 ((3:Nat)-1:Int)] (bn (prop d 2)):=iD d 2 om;have h2:=eK (ho.prop 2);refine pv Tryz.func94 ?_;repeat' ((conv=>whnf);first|refine Br.strF rfl ?_|refine Br.strT rfl ?_|refine Idx.at (f:=D.str) (l:=ah) 3 rfl (kD rfl) ?_|exact kQ|(refine bk ?_ ?_<;>intro _<;>try(exfalso;omega))|refine stq ?_|refine cp ax ?_|refine cp h1 ?_|refine cd h2 (λ_=>?_) (λ_=>?_)|fail)
  all_goals(conv=>whnf)
  all_goals first
   | (refine aC.int (Eq.symm ?_);show(if PrV d.scr then(0:Int) else 11)=0;exact if_pos asm)
   | (refine aC.int (Eq.symm ?_);show(if PrV d.scr then(0:Int) else 11)=11;exact if_neg asm)
   | exact aC.int rfl
 ·
  have h1:Pu Tryz.prog 59 [dbD d,i64 ((4:Nat)-1:Int)] (bn (prop d 3)):=iD d 3 om;have h2:=eK (ho.prop 3);refine pv Tryz.func94 ?_;repeat' ((conv=>whnf);first|refine Br.strF rfl ?_|refine Br.strT rfl ?_|refine Idx.at (f:=D.str) (l:=ah) 4 rfl (kD rfl) ?_|exact kQ|(refine bk ?_ ?_<;>intro _<;>try(exfalso;omega))|refine stq ?_|refine cp ax ?_|refine cp h1 ?_|refine cd h2 (λ_=>?_) (λ_=>?_)|fail)
  all_goals(conv=>whnf)
  all_goals first
   | (refine aC.int (Eq.symm ?_);show(if PrV d.gra then(0:Int) else 11)=0;exact if_pos asm)
   | (refine aC.int (Eq.symm ?_);show(if PrV d.gra then(0:Int) else 11)=11;exact if_neg asm)
   | exact aC.int rfl
 ·
  have h1:Pu Tryz.prog 59 [dbD d,i64 ((5:Nat)-1:Int)] (bn (prop d 4)):=iD d 4 om;have h2:=eK (ho.prop 4);refine pv Tryz.func94 ?_;repeat' ((conv=>whnf);first|refine Br.strF rfl ?_|refine Br.strT rfl ?_|refine Idx.at (f:=D.str) (l:=ah) 5 rfl (kD rfl) ?_|exact kQ|(refine bk ?_ ?_<;>intro _<;>try(exfalso;omega))|refine stq ?_|refine cp ax ?_|refine cp h1 ?_|refine cd h2 (λ_=>?_) (λ_=>?_)|fail)
  all_goals(conv=>whnf)
  all_goals first
   | (refine aC.int (Eq.symm ?_);show(if PrV d.wor then(0:Int) else 11)=0;exact if_pos asm)
   | (refine aC.int (Eq.symm ?_);show(if PrV d.wor then(0:Int) else 11)=11;exact if_neg asm)
   | exact aC.int rfl
 ·
  have h1:Pu Tryz.prog 59 [dbD d,i64 ((6:Nat)-1:Int)] (bn (prop d 5)):=iD d 5 om;have h2:=eK (ho.prop 5);refine pv Tryz.func94 ?_;repeat' ((conv=>whnf);first|refine Br.strF rfl ?_|refine Br.strT rfl ?_|refine Idx.at (f:=D.str) (l:=ah) 6 rfl (kD rfl) ?_|exact kQ|(refine bk ?_ ?_<;>intro _<;>try(exfalso;omega))|refine stq ?_|refine cp ax ?_|refine cp h1 ?_|refine cd h2 (λ_=>?_) (λ_=>?_)|fail)
  all_goals(conv=>whnf)
  all_goals first
   | (refine aC.int (Eq.symm ?_);show(if PrV d.sen then(0:Int) else 11)=0;exact if_pos asm)
   | (refine aC.int (Eq.symm ?_);show(if PrV d.sen then(0:Int) else 11)=11;exact if_neg asm)
   | exact aC.int rfl
 ·
  have h1:Pu Tryz.prog 59 [dbD d,i64 ((7:Nat)-1:Int)] (bn (prop d 6)):=iD d 6 om;have h2:=eK (ho.prop 6);refine pv Tryz.func94 ?_;repeat' ((conv=>whnf);first|refine Br.strF rfl ?_|refine Br.strT rfl ?_|refine Idx.at (f:=D.str) (l:=ah) 7 rfl (kD rfl) ?_|exact kQ|(refine bk ?_ ?_<;>intro _<;>try(exfalso;omega))|refine stq ?_|refine cp ax ?_|refine cp h1 ?_|refine cd h2 (λ_=>?_) (λ_=>?_)|fail)
  all_goals(conv=>whnf)
  all_goals first
   | (refine aC.int (Eq.symm ?_);show(if PrV d.lin then(0:Int) else 11)=0;exact if_pos asm)
   | (refine aC.int (Eq.symm ?_);show(if PrV d.lin then(0:Int) else 11)=11;exact if_neg asm)
   | exact aC.int rfl
 ·
  have h2:=rcls_c (l:=d.classes) ho.classes;refine pv Tryz.func94 ?_;repeat' ((conv=>whnf);first|refine Br.strF rfl ?_|refine Br.strT rfl ?_|refine Idx.at (f:=D.str) (l:=ah) 8 rfl (kD rfl) ?_|exact kQ|(refine bk ?_ ?_<;>intro _<;>try(exfalso;omega))|refine stq ?_|refine cp ax ?_|refine cd h2 (λ_=>?_) (λ_=>?_)|fail)
  all_goals(conv=>whnf)
  all_goals first
   | (refine aC.int (Eq.symm ?_);show(if ClV d.classes then(0:Int) else 11)=0;exact if_pos asm)
   | (refine aC.int (Eq.symm ?_);show(if ClV d.classes then(0:Int) else 11)=11;exact if_neg asm)
   | exact aC.int rfl
 ·
  have h0:Pu Tryz.prog 119 [.str (iI 9)] (i64 (-1)):=dw 9 om;have h1:=md d 9 om;have h2:=hem 9;refine pv Tryz.func94 ?_;repeat' ((conv=>whnf);first|refine Br.strF rfl ?_|refine Br.strT rfl ?_|refine Idx.at (f:=D.str) (l:=ah) 9 rfl (kD rfl) ?_|exact kQ|(refine bk ?_ ?_<;>intro _<;>try(exfalso;omega))|refine stq ?_|refine cp ax ?_|refine cp h0 ?_|refine cp h1 ?_|refine cp h2 ?_|fail)
  all_goals(conv=>whnf)
  all_goals first
   | (refine aC.int (Eq.symm ?_);show(if True then(0:Int) else 11)=0;exact if_pos asm)
   | (refine aC.int (Eq.symm ?_);show(if True then(0:Int) else 11)=11;exact if_neg asm)
   | exact aC.int rfl
 ·
  have h0:Pu Tryz.prog 119 [.str (iI 10)] (i64 (0)):=dw 10 om;have h1:=mc d 0 om;have h2:=eI (rs:=d.excl) (hs.2.2.1 0 om);refine pv Tryz.func94 ?_;repeat' ((conv=>whnf);first|refine Br.strF rfl ?_|refine Br.strT rfl ?_|refine Idx.at (f:=D.str) (l:=ah) 10 rfl (kD rfl) ?_|exact kQ|(refine bk ?_ ?_<;>intro _<;>try(exfalso;omega))|refine stq ?_|refine cp ax ?_|refine cp h0 ?_|refine cp h1 ?_|refine cd h2 (λ_=>?_) (λ_=>?_)|fail)
  all_goals(conv=>whnf)
  all_goals first
   | (refine aC.int (Eq.symm ?_);show(if c8 d.excl then(0:Int) else 11)=0;exact if_pos asm)
   | (refine aC.int (Eq.symm ?_);show(if c8 d.excl then(0:Int) else 11)=11;exact if_neg asm)
   | exact aC.int rfl
 ·
  have h0:Pu Tryz.prog 119 [.str (iI 11)] (i64 (-1)):=dw 11 om;have h1:=md d 11 om;have h2:=hem 11;refine pv Tryz.func94 ?_;repeat' ((conv=>whnf);first|refine Br.strF rfl ?_|refine Br.strT rfl ?_|refine Idx.at (f:=D.str) (l:=ah) 11 rfl (kD rfl) ?_|exact kQ|(refine bk ?_ ?_<;>intro _<;>try(exfalso;omega))|refine stq ?_|refine cp ax ?_|refine cp h0 ?_|refine cp h1 ?_|refine cp h2 ?_|fail)
  all_goals(conv=>whnf)
  all_goals first
   | (refine aC.int (Eq.symm ?_);show(if True then(0:Int) else 11)=0;exact if_pos asm)
   | (refine aC.int (Eq.symm ?_);show(if True then(0:Int) else 11)=11;exact if_neg asm)
   | exact aC.int rfl
 ·
  have h0:Pu Tryz.prog 119 [.str (iI 12)] (i64 (-1)):=dw 12 om;have h1:=md d 12 om;have h2:=hem 12;refine pv Tryz.func94 ?_;repeat' ((conv=>whnf);first|refine Br.strF rfl ?_|refine Br.strT rfl ?_|refine Idx.at (f:=D.str) (l:=ah) 12 rfl (kD rfl) ?_|exact kQ|(refine bk ?_ ?_<;>intro _<;>try(exfalso;omega))|refine stq ?_|refine cp ax ?_|refine cp h0 ?_|refine cp h1 ?_|refine cp h2 ?_|fail)
  all_goals(conv=>whnf)
  all_goals first
   | (refine aC.int (Eq.symm ?_);show(if True then(0:Int) else 11)=0;exact if_pos asm)
   | (refine aC.int (Eq.symm ?_);show(if True then(0:Int) else 11)=11;exact if_neg asm)
   | exact aC.int rfl
 ·
  have h0:Pu Tryz.prog 119 [.str (iI 13)] (i64 (-1)):=dw 13 om;have h1:=md d 13 om;have h2:=hem 13;refine pv Tryz.func94 ?_;repeat' ((conv=>whnf);first|refine Br.strF rfl ?_|refine Br.strT rfl ?_|refine Idx.at (f:=D.str) (l:=ah) 13 rfl (kD rfl) ?_|exact kQ|(refine bk ?_ ?_<;>intro _<;>try(exfalso;omega))|refine stq ?_|refine cp ax ?_|refine cp h0 ?_|refine cp h1 ?_|refine cp h2 ?_|fail)
  all_goals(conv=>whnf)
  all_goals first
   | (refine aC.int (Eq.symm ?_);show(if True then(0:Int) else 11)=0;exact if_pos asm)
   | (refine aC.int (Eq.symm ?_);show(if True then(0:Int) else 11)=11;exact if_neg asm)
   | exact aC.int rfl
 ·
  have h0:Pu Tryz.prog 119 [.str (iI 14)] (i64 (-1)):=dw 14 om;have h1:=md d 14 om;have h2:=hem 14;refine pv Tryz.func94 ?_;repeat' ((conv=>whnf);first|refine Br.strF rfl ?_|refine Br.strT rfl ?_|refine Idx.at (f:=D.str) (l:=ah) 14 rfl (kD rfl) ?_|exact kQ|(refine bk ?_ ?_<;>intro _<;>try(exfalso;omega))|refine stq ?_|refine cp ax ?_|refine cp h0 ?_|refine cp h1 ?_|refine cp h2 ?_|fail)
  all_goals(conv=>whnf)
  all_goals first
   | (refine aC.int (Eq.symm ?_);show(if True then(0:Int) else 11)=0;exact if_pos asm)
   | (refine aC.int (Eq.symm ?_);show(if True then(0:Int) else 11)=11;exact if_neg asm)
   | exact aC.int rfl
 ·
  have h0:Pu Tryz.prog 119 [.str (iI 15)] (i64 (1)):=dw 15 om;have h1:=mc d 1 om;have h2:=eI (rs:=d.cased) (hs.2.2.1 1 om);refine pv Tryz.func94 ?_;repeat' ((conv=>whnf);first|refine Br.strF rfl ?_|refine Br.strT rfl ?_|refine Idx.at (f:=D.str) (l:=ah) 15 rfl (kD rfl) ?_|exact kQ|(refine bk ?_ ?_<;>intro _<;>try(exfalso;omega))|refine stq ?_|refine cp ax ?_|refine cp h0 ?_|refine cp h1 ?_|refine cd h2 (λ_=>?_) (λ_=>?_)|fail)
  all_goals(conv=>whnf)
  all_goals first
   | (refine aC.int (Eq.symm ?_);show(if c8 d.cased then(0:Int) else 11)=0;exact if_pos asm)
   | (refine aC.int (Eq.symm ?_);show(if c8 d.cased then(0:Int) else 11)=11;exact if_neg asm)
   | exact aC.int rfl
 ·
  have h0:Pu Tryz.prog 119 [.str (iI 16)] (i64 (2)):=dw 16 om;have h1:=mc d 2 om;have h2:=eI (rs:=d.ignor) (hs.2.2.1 2 om);refine pv Tryz.func94 ?_;repeat' ((conv=>whnf);first|refine Br.strF rfl ?_|refine Br.strT rfl ?_|refine Idx.at (f:=D.str) (l:=ah) 16 rfl (kD rfl) ?_|exact kQ|(refine bk ?_ ?_<;>intro _<;>try(exfalso;omega))|refine stq ?_|refine cp ax ?_|refine cp h0 ?_|refine cp h1 ?_|refine cd h2 (λ_=>?_) (λ_=>?_)|fail)
  all_goals(conv=>whnf)
  all_goals first
   | (refine aC.int (Eq.symm ?_);show(if c8 d.ignor then(0:Int) else 11)=0;exact if_pos asm)
   | (refine aC.int (Eq.symm ?_);show(if c8 d.ignor then(0:Int) else 11)=11;exact if_neg asm)
   | exact aC.int rfl
 ·
  have h0:Pu Tryz.prog 119 [.str (iI 17)] (i64 (3)):=dw 17 om;have h1:=mc d 3 om;have h2:=eI (rs:=d.start) (hs.2.2.1 3 om);refine pv Tryz.func94 ?_;repeat' ((conv=>whnf);first|refine Br.strF rfl ?_|refine Br.strT rfl ?_|refine Idx.at (f:=D.str) (l:=ah) 17 rfl (kD rfl) ?_|exact kQ|(refine bk ?_ ?_<;>intro _<;>try(exfalso;omega))|refine stq ?_|refine cp ax ?_|refine cp h0 ?_|refine cp h1 ?_|refine cd h2 (λ_=>?_) (λ_=>?_)|fail)
  all_goals(conv=>whnf)
  all_goals first
   | (refine aC.int (Eq.symm ?_);show(if c8 d.start then(0:Int) else 11)=0;exact if_pos asm)
   | (refine aC.int (Eq.symm ?_);show(if c8 d.start then(0:Int) else 11)=11;exact if_neg asm)
   | exact aC.int rfl
 ·
  have h0:Pu Tryz.prog 119 [.str (iI 18)] (i64 (4)):=dw 18 om;have h1:=mc d 4 om;have h2:=eI (rs:=d.cont) (hs.2.2.1 4 om);refine pv Tryz.func94 ?_;repeat' ((conv=>whnf);first|refine Br.strF rfl ?_|refine Br.strT rfl ?_|refine Idx.at (f:=D.str) (l:=ah) 18 rfl (kD rfl) ?_|exact kQ|(refine bk ?_ ?_<;>intro _<;>try(exfalso;omega))|refine stq ?_|refine cp ax ?_|refine cp h0 ?_|refine cp h1 ?_|refine cd h2 (λ_=>?_) (λ_=>?_)|fail)
  all_goals(conv=>whnf)
  all_goals first
   | (refine aC.int (Eq.symm ?_);show(if c8 d.cont then(0:Int) else 11)=0;exact if_pos asm)
   | (refine aC.int (Eq.symm ?_);show(if c8 d.cont then(0:Int) else 11)=11;exact if_neg asm)
   | exact aC.int rfl
 ·
  have h0:Pu Tryz.prog 119 [.str (iI 19)] (i64 (5)):=dw 19 om;have h1:=mc d 5 om;have h2:=eI (rs:=d.medial) (hs.2.2.1 5 om);refine pv Tryz.func94 ?_;repeat' ((conv=>whnf);first|refine Br.strF rfl ?_|refine Br.strT rfl ?_|refine Idx.at (f:=D.str) (l:=ah) 19 rfl (kD rfl) ?_|exact kQ|(refine bk ?_ ?_<;>intro _<;>try(exfalso;omega))|refine stq ?_|refine cp ax ?_|refine cp h0 ?_|refine cp h1 ?_|refine cd h2 (λ_=>?_) (λ_=>?_)|fail)
  all_goals(conv=>whnf)
  all_goals first
   | (refine aC.int (Eq.symm ?_);show(if c8 d.medial then(0:Int) else 11)=0;exact if_pos asm)
   | (refine aC.int (Eq.symm ?_);show(if c8 d.medial then(0:Int) else 11)=11;exact if_neg asm)
   | exact aC.int rfl
 ·
  have h0:Pu Tryz.prog 119 [.str (iI 20)] (i64 (-1)):=dw 20 om;have h1:=md d 20 om;have h2:=hem 20;refine pv Tryz.func94 ?_;repeat' ((conv=>whnf);first|refine Br.strF rfl ?_|refine Br.strT rfl ?_|refine Idx.at (f:=D.str) (l:=ah) 20 rfl (kD rfl) ?_|exact kQ|(refine bk ?_ ?_<;>intro _<;>try(exfalso;omega))|refine stq ?_|refine cp ax ?_|refine cp h0 ?_|refine cp h1 ?_|refine cp h2 ?_|fail)
  all_goals(conv=>whnf)
  all_goals first
   | (refine aC.int (Eq.symm ?_);show(if True then(0:Int) else 11)=0;exact if_pos asm)
   | (refine aC.int (Eq.symm ?_);show(if True then(0:Int) else 11)=11;exact if_neg asm)
   | exact aC.int rfl
theorem gX {d:Db}(ho:d.ok) (hs:SmD d):∃ e:Int,Pu Tryz.prog 54 [dbD d] (i64 e)∧(e=0↔DbV d):=by
 have hm:∀ k,∃ e:Int,Pu Tryz.prog 121 [cP (gD d k)] (i64 e)∧(e=0↔MOk (gD d k)):=λk=>by
  by_cases hk:k<21
  ·exact t5 (SmD.maps ho hs hk)
  ·rw[xq hk];exact t5 (SmD.maps ho hs om)
 let em:Nat->Int:=λk=>Classical.choose (hm k)
 have h1:∀ k,Pu Tryz.prog 121 [cP (gD d k)] (i64 (em k)):=λk=>(Classical.choose_spec (hm k)).1
 have h2:∀ k,em k=0↔MOk (gD d k):=λk=>(Classical.choose_spec (hm k)).2
 by_cases hv:vH d.major∧vH d.minor
 ·refine⟨gy ((List.range 21).map (Hg d em)),?_,?_⟩
  ·refine pv Tryz.func54 ?_;repeat' ((conv=>whnf);first|exact kQ|(refine bk ?_ ?_<;>intro _<;>try(exfalso;omega))|refine stq ?_|refine cd BD (λ_=>?_) (λ_=>?_)|fail)
   all_goals(conv=>whnf)
   all_goals first
    | (exfalso;rename_i h;exact h hv.1)
    | (exfalso;rename_i h;exact h hv.2)
    | skip
   refine aH.by aB T0 (λk:Nat=>⟨tmp 29 [(1,.ptr 0 0),(3,i64 (k:Int))],⟨1,[(0,.cells (dbC d) true)]⟩⟩)
    (λk=>k<=21∧∀ i,i<k->Hg d em i=0) (λk=>21-k) 0 ⟨by omega,λ_ h=>by omega⟩ ?_ ?_
   ·exact lq [(0,_)] []
   intro k ⟨h3,h4⟩;have hfl:ah.length=21:=rfl;by_cases hk:k<21
   ·have hf:=DW ho hs h1 k hk;repeat' ((conv=>whnf);first|exact kQ|(refine bk ?_ ?_<;>intro _<;>try(exfalso;omega))|refine stq ?_|refine cp ax ?_|refine cp hf ?_|fail)
    all_goals(conv=>whnf)
    all_goals first
     | exact aC.int (bL hk h4 asm).symm
     | (refine⟨k+1,⟨by omega,de h4 om⟩,by omega,?_⟩
        exact lq [(0,_)] [])
   ·repeat' ((conv=>whnf);first|exact kQ|(refine bk ?_ ?_<;>intro _<;>try(exfalso;omega))|refine stq ?_|refine cp ax ?_|fail)
    all_goals(conv=>whnf)
    exact aC.int (lw.2 λi hi=>h4 i om).symm
  ·rw[lw];refine forall_congr' λk=>forall_congr' λhk=>?_
   by_cases hk0:k=0
   ·subst hk0;exact⟨λ_=>hv,λ_=>rfl⟩
   ·rw[Hg,if_neg hk0];exact yP h2 k hk
 ·refine⟨1,?_,λh=>by omega,λh=>absurd (h 0 om) hv⟩;refine pv Tryz.func54 ?_;repeat' ((conv=>whnf);first|exact kQ|(refine bk ?_ ?_<;>intro _<;>try(exfalso;omega))|refine stq ?_|refine cd BD (λ_=>?_) (λ_=>?_)|fail)
  all_goals(conv=>whnf)
  all_goals first
   | exact aC.same rfl rfl
   | (exfalso;rename_i h1 h2;exact hv ⟨h1,h2⟩)
end
end
section
open Go Go.Am Classical
set_option maxRecDepth 100000
variable [GT]
theorem fj {α:Type}{f:α->D}(h:∀ x,one (f x)=true):∀ l:List α,d9 (l.map f)=true
 | []=>rfl
 | x::l=>by simp[d9,h,fj h l]
theorem xT:∀ a b:List D,d9 (a++b)=(d9 a&&d9 b)
 | [],b=>by simp[d9]
 | d::a,b=>by simp[d9,xT a b,Bool.and_assoc]
theorem uH {α:Type}{c:α->List D}(h:∀ x,d9 (c x)=true):∀ l:List α,d9 (l.flatMap c)=true
 | []=>rfl
 | x::l=>by simp[xT,h,uH h l]
theorem c9.lstS {α:Type}{c:α->List D}{sz:Nat}(hc:∀ x,(c x).length=sz){h:aA}{l:List α}{K:Nat->List D->Prop}(go:K l.length (l.flatMap c)):c9 h sz (.imm l.length (l.flatMap c)) K:=⟨_,_,by simp[bw,ab hc],go⟩
theorem Rd.frzT {h:aA}{fz:Nat->Bool}{σ:Nat->Option Nat}{l:List Str}{id n cap es:Nat}{ex:Bool}{cs:List D}{bx:Bool}(hf:fz id=true) (hg:h.get id=some (.cells cs bx)) (hn:n=l.length) (he:es=1) (hc:cs=l.map D.str):Rd h fz σ (.sl id 0 n cap es ex) (strs l):=by
 rw[show strs l=lstS (λs=>[D.str s]) l from(sA l).symm];exact Rd.frzL (c:=λs:Str=>[D.str s]) (sz:=1) (λ_=>rfl) (λ_=>rfl) hf hg hn he (by rw[hc,aO])
theorem GZ {l:List Str}(hl:l.length<=1000):Pu Tryz.prog 91 [strs l] (strs l):=by
 cases l with
 | nil=>
  refine Pu.empty ?_ ?_
  ·refine pv Tryz.func91 ?_;repeat' ((conv=>whnf);first|exact kQ|(refine bk ?_ ?_<;>intro _<;>try(exfalso;omega))|refine stq ?_)
   all_goals(conv=>whnf)
   exact⟨.nil⟩
  ·refine pv Tryz.func91 ?_;repeat' ((conv=>whnf);first|exact kQ|(refine bk ?_ ?_<;>intro _<;>try(exfalso;omega))|refine stq ?_)
   all_goals(conv=>whnf)
   exact⟨Rd.frz rfl rfl (kD rfl) (Rds.eqs rfl rfl)⟩
 | cons x xs=>
  have hx2:(x::xs).length=xs.length+1:=rfl;refine pv Tryz.func91 ?_;repeat' ((conv=>whnf);first|exact kQ|(refine bk ?_ ?_<;>intro _<;>try(exfalso;omega))|refine stq ?_|refine c9.lst ?_|refine Chk.mk (fj (λ_=>rfl) _) ?_|refine Chk.growX 16 1 rfl rfl om om si ?_)
  all_goals(conv=>whnf)
  exact⟨Rd.frzT rfl rfl si rfl si⟩
theorem Ea (s:Spn):(Eb s).length=3:=rfl
theorem Ga {l:List Spn}(hl:l.length<=1000):Pu Tryz.prog 92 [cg l] (cg l):=by
 cases l with
 | nil=>
  refine Pu.empty ?_ ?_
  ·refine pv Tryz.func92 ?_;repeat' ((conv=>whnf);first|exact kQ|(refine bk ?_ ?_<;>intro _<;>try(exfalso;omega))|refine stq ?_)
   all_goals(conv=>whnf)
   exact⟨.nil⟩
  ·refine pv Tryz.func92 ?_;repeat' ((conv=>whnf);first|exact kQ|(refine bk ?_ ?_<;>intro _<;>try(exfalso;omega))|refine stq ?_)
   all_goals(conv=>whnf)
   exact⟨Rd.frz rfl rfl (kD rfl) (Rds.eqs rfl rfl)⟩
 | cons x xs=>
  have hx2:(x::xs).length=xs.length+1:=rfl;refine pv Tryz.func92 ?_;repeat' ((conv=>whnf);first|exact kQ|(refine bk ?_ ?_<;>intro _<;>try(exfalso;omega))|refine stq ?_|refine c9.lstS (c:=Eb) (sz:=3) (l:=x::xs) (λ_=>rfl) ?_|refine Chk.mk (uH (λ_=>rfl) _) ?_|refine Chk.growX 24 3 rfl rfl om om si ?_)
  all_goals(conv=>whnf)
  exact⟨Rd.frzL Ea (λ_=>rfl) rfl rfl si rfl si⟩
set_option maxHeartbeats 8000000 in
theorem wL {d:Db}(hs:∀ k,k<7->(prop d k).names.length<=30∧(prop d k).spans.length<=16):∀ k:Nat,k<7->Pu Tryz.prog 53 [dbD d,i64 (k:Int)] (bn (prop d k)):=by
 intro k hk;have hn:=ld (prop d k);have h1:=hs k hk;have c1:=GZ (l:=(prop d k).names) om;have c2:=Ga (l:=(prop d k).spans) om;rcases(by omega:k=0∨k=1∨k=2∨k=3∨k=4∨k=5∨k=6) with rfl|rfl|rfl|rfl|rfl|rfl|rfl
 all_goals
  refine pv Tryz.func53 ?_;repeat' ((conv=>whnf);first|exact kQ|(refine bk ?_ ?_<;>intro _<;>try(exfalso;omega))|refine stq ?_|refine cp c1 ?_|refine cp c2 ?_|(apply Cll.inl aB T0 Tryz.func90 rfl rfl ?_;rotate_left)|exact⟨Or.inr rfl,rfl,rfl⟩|refine ap.by (id:=4) aB T0 [0,1,3,7,15,0,32,96,224,511,1023,2047] (by kernel_rfl) ?_|refine Chk.mk ⟨_,rfl⟩ ?_|fail)
  all_goals(conv=>whnf)
  exact⟨Rd.eqd rfl hn⟩
end
end Go.Proofs.YtbmdndckndnehaaGreatDoor
