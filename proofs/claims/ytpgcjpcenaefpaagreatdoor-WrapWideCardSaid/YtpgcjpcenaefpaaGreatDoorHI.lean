/-
  Contracts of functions over data: databases checked by the program.
-/
import Derived.Test.YtpgcjpcenaefpaaGreatDoorH5
import Derived.Test.YtpgcjpcenaefpaaGreatDoorHE
import Derived.Test.YtpgcjpcenaefpaaGreatDoorG0
import Derived.Test.YtpgcjpcenaefpaaGreatDoorAmF
set_option linter.unusedSectionVars false
namespace Go.Proofs.YtpgcjpcenaefpaaGreatDoor
section
open Go Go.Am Classical
set_option maxRecDepth 100000
theorem xHI.rdX {p:Prop}(h:p:=by first|exact Rd.frzp rfl rfl (Rds.eqs rfl (cT _))|exact Rd.int rfl|exact Rd.same (cT _)|fail):p:=h
open xHI
variable [GT]
theorem bI {a:Nat->Int}{n k:Nat}(hk:k<n) (h:∀ i,i<k->a i=0) (h0:a k≠0):gY ((List.range n).map a)=a k:=by
 have:=vH (l:=(List.range n).map a) (k:=k) (by simpa using hk) (λi hi hik=>by simpa using h i hik) (by simpa using h0)
 simpa using this
theorem kz {a:Nat->Int}{n:Nat}:gY ((List.range n).map a)=0↔∀ i,i<n->a i=0:=by
 rw[ky];constructor
 ·intro h i hi;have:=h i (by simpa using hi)
  simpa using this
 ·intro h i hi
  have:i<n:=by simpa using hi
  simpa using h i this
theorem dP {a:Nat->Int}{k:Nat}(h:∀ i,i<k->a i=0) (h0:a k=0):∀ i,i<k+1->a i=0:=λi hi=>by
 rcases(by omega:i<k∨i=k) with h1|rfl
 ·exact h i h1
 ·exact h0
set_option maxHeartbeats 8000000 in
theorem E9 {d:Db}{a:Nat->Int}(hc:∀ k,k<21->Pu Tryz.prog (fchk k) [.agg [.iptr ((dbC d).drop (foff k))]] (i64 (a k))):Pu Tryz.prog 57 [dbD d] (i64 (gY ((List.range 21).map a))):=by
 refine pv Tryz.func57 ?_;repeat' ((conv=>whnf);first|exact kQ|(refine bk ?_ ?_<;>intro _<;>try(exfalso;omega))|refine stq ?_|refine cp HU ?_|fail)
 refine aH.by aB T0 (λk:Nat=>⟨tmp 19 [(1,.iptr (dbC d)),(6,strs af),(7,i64 21),(8,i64 (k:Int))],⟨0,[]⟩⟩)
  (λk=>k<=21∧∀ i,i<k->a i=0) (λk=>21-k) 0 ⟨by omega,λ_ h=>by omega⟩ ?_ ?_
 ·exact lq [] [0]
 intro k ⟨h3,h4⟩;rcases(by omega:k=0∨k=1∨k=2∨k=3∨k=4∨k=5∨k=6∨k=7∨k=8∨k=9∨k=10∨k=11∨k=12∨k=13∨k=14∨k=15∨k=16∨k=17∨k=18∨k=19∨k=20∨k=21) with rfl|rfl|rfl|rfl|rfl|rfl|rfl|rfl|rfl|rfl|rfl|rfl|rfl|rfl|rfl|rfl|rfl|rfl|rfl|rfl|rfl|rfl
 ·
  have hf:=cQ d 0 om;have hk:=hc 0 om;repeat' ((conv=>whnf);first|refine Idx.at (f:=D.str) (l:=af) 0 rfl (kD rfl) ?_|exact kQ|(refine bk ?_ ?_<;>intro _<;>try(exfalso;omega))|refine stq ?_|refine cp hf ?_|refine cp hk ?_|fail)
  all_goals(conv=>whnf)
  all_goals first
   | exact aC.int (bI om h4 asm).symm
   | (refine⟨0+1,⟨by omega,dP h4 om⟩,by omega,?_⟩
      exact lq0)
 ·
  have hf:=cQ d 1 om;have hk:=hc 1 om;repeat' ((conv=>whnf);first|refine Idx.at (f:=D.str) (l:=af) 1 rfl (kD rfl) ?_|exact kQ|(refine bk ?_ ?_<;>intro _<;>try(exfalso;omega))|refine stq ?_|refine cp hf ?_|refine cp hk ?_|fail)
  all_goals(conv=>whnf)
  all_goals first
   | exact aC.int (bI om h4 asm).symm
   | (refine⟨1+1,⟨by omega,dP h4 om⟩,by omega,?_⟩
      exact lq0)
 ·
  have hf:=cQ d 2 om;have hk:=hc 2 om;repeat' ((conv=>whnf);first|refine Idx.at (f:=D.str) (l:=af) 2 rfl (kD rfl) ?_|exact kQ|(refine bk ?_ ?_<;>intro _<;>try(exfalso;omega))|refine stq ?_|refine cp hf ?_|refine cp hk ?_|fail)
  all_goals(conv=>whnf)
  all_goals first
   | exact aC.int (bI om h4 asm).symm
   | (refine⟨2+1,⟨by omega,dP h4 om⟩,by omega,?_⟩
      exact lq0)
 ·
  have hf:=cQ d 3 om;have hk:=hc 3 om;repeat' ((conv=>whnf);first|refine Idx.at (f:=D.str) (l:=af) 3 rfl (kD rfl) ?_|exact kQ|(refine bk ?_ ?_<;>intro _<;>try(exfalso;omega))|refine stq ?_|refine cp hf ?_|refine cp hk ?_|fail)
  all_goals(conv=>whnf)
  all_goals first
   | exact aC.int (bI om h4 asm).symm
   | (refine⟨3+1,⟨by omega,dP h4 om⟩,by omega,?_⟩
      exact lq0)
 ·
  have hf:=cQ d 4 om;have hk:=hc 4 om;repeat' ((conv=>whnf);first|refine Idx.at (f:=D.str) (l:=af) 4 rfl (kD rfl) ?_|exact kQ|(refine bk ?_ ?_<;>intro _<;>try(exfalso;omega))|refine stq ?_|refine cp hf ?_|refine cp hk ?_|fail)
  all_goals(conv=>whnf)
  all_goals first
   | exact aC.int (bI om h4 asm).symm
   | (refine⟨4+1,⟨by omega,dP h4 om⟩,by omega,?_⟩
      exact lq0)
 ·
  have hf:=cQ d 5 om;have hk:=hc 5 om;repeat' ((conv=>whnf);first|refine Idx.at (f:=D.str) (l:=af) 5 rfl (kD rfl) ?_|exact kQ|(refine bk ?_ ?_<;>intro _<;>try(exfalso;omega))|refine stq ?_|refine cp hf ?_|refine cp hk ?_|fail)
  all_goals(conv=>whnf)
  all_goals first
   | exact aC.int (bI om h4 asm).symm
   | (refine⟨5+1,⟨by omega,dP h4 om⟩,by omega,?_⟩
      exact lq0)
 ·
  have hf:=cQ d 6 om;have hk:=hc 6 om;repeat' ((conv=>whnf);first|refine Idx.at (f:=D.str) (l:=af) 6 rfl (kD rfl) ?_|exact kQ|(refine bk ?_ ?_<;>intro _<;>try(exfalso;omega))|refine stq ?_|refine cp hf ?_|refine cp hk ?_|fail)
  all_goals(conv=>whnf)
  all_goals first
   | exact aC.int (bI om h4 asm).symm
   | (refine⟨6+1,⟨by omega,dP h4 om⟩,by omega,?_⟩
      exact lq0)
 ·
  have hf:=cQ d 7 om;have hk:=hc 7 om;repeat' ((conv=>whnf);first|refine Idx.at (f:=D.str) (l:=af) 7 rfl (kD rfl) ?_|exact kQ|(refine bk ?_ ?_<;>intro _<;>try(exfalso;omega))|refine stq ?_|refine cp hf ?_|refine cp hk ?_|fail)
  all_goals(conv=>whnf)
  all_goals first
   | exact aC.int (bI om h4 asm).symm
   | (refine⟨7+1,⟨by omega,dP h4 om⟩,by omega,?_⟩
      exact lq0)
 ·
  have hf:=cQ d 8 om;have hk:=hc 8 om;repeat' ((conv=>whnf);first|refine Idx.at (f:=D.str) (l:=af) 8 rfl (kD rfl) ?_|exact kQ|(refine bk ?_ ?_<;>intro _<;>try(exfalso;omega))|refine stq ?_|refine cp hf ?_|refine cp hk ?_|fail)
  all_goals(conv=>whnf)
  all_goals first
   | exact aC.int (bI om h4 asm).symm
   | (refine⟨8+1,⟨by omega,dP h4 om⟩,by omega,?_⟩
      exact lq0)
 ·
  have hf:=cQ d 9 om;have hk:=hc 9 om;repeat' ((conv=>whnf);first|refine Idx.at (f:=D.str) (l:=af) 9 rfl (kD rfl) ?_|exact kQ|(refine bk ?_ ?_<;>intro _<;>try(exfalso;omega))|refine stq ?_|refine cp hf ?_|refine cp hk ?_|fail)
  all_goals(conv=>whnf)
  all_goals first
   | exact aC.int (bI om h4 asm).symm
   | (refine⟨9+1,⟨by omega,dP h4 om⟩,by omega,?_⟩
      exact lq0)
 ·
  have hf:=cQ d 10 om;have hk:=hc 10 om;repeat' ((conv=>whnf);first|refine Idx.at (f:=D.str) (l:=af) 10 rfl (kD rfl) ?_|exact kQ|(refine bk ?_ ?_<;>intro _<;>try(exfalso;omega))|refine stq ?_|refine cp hf ?_|refine cp hk ?_|fail)
  all_goals(conv=>whnf)
  all_goals first
   | exact aC.int (bI om h4 asm).symm
   | (refine⟨10+1,⟨by omega,dP h4 om⟩,by omega,?_⟩
      exact lq0)
 ·
  have hf:=cQ d 11 om;have hk:=hc 11 om;repeat' ((conv=>whnf);first|refine Idx.at (f:=D.str) (l:=af) 11 rfl (kD rfl) ?_|exact kQ|(refine bk ?_ ?_<;>intro _<;>try(exfalso;omega))|refine stq ?_|refine cp hf ?_|refine cp hk ?_|fail)
  all_goals(conv=>whnf)
  all_goals first
   | exact aC.int (bI om h4 asm).symm
   | (refine⟨11+1,⟨by omega,dP h4 om⟩,by omega,?_⟩
      exact lq0)
 ·
  have hf:=cQ d 12 om;have hk:=hc 12 om;repeat' ((conv=>whnf);first|refine Idx.at (f:=D.str) (l:=af) 12 rfl (kD rfl) ?_|exact kQ|(refine bk ?_ ?_<;>intro _<;>try(exfalso;omega))|refine stq ?_|refine cp hf ?_|refine cp hk ?_|fail)
  all_goals(conv=>whnf)
  all_goals first
   | exact aC.int (bI om h4 asm).symm
   | (refine⟨12+1,⟨by omega,dP h4 om⟩,by omega,?_⟩
      exact lq0)
 ·
  have hf:=cQ d 13 om;have hk:=hc 13 om;repeat' ((conv=>whnf);first|refine Idx.at (f:=D.str) (l:=af) 13 rfl (kD rfl) ?_|exact kQ|(refine bk ?_ ?_<;>intro _<;>try(exfalso;omega))|refine stq ?_|refine cp hf ?_|refine cp hk ?_|fail)
  all_goals(conv=>whnf)
  all_goals first
   | exact aC.int (bI om h4 asm).symm
   | (refine⟨13+1,⟨by omega,dP h4 om⟩,by omega,?_⟩
      exact lq0)
 ·
  have hf:=cQ d 14 om;have hk:=hc 14 om;repeat' ((conv=>whnf);first|refine Idx.at (f:=D.str) (l:=af) 14 rfl (kD rfl) ?_|exact kQ|(refine bk ?_ ?_<;>intro _<;>try(exfalso;omega))|refine stq ?_|refine cp hf ?_|refine cp hk ?_|fail)
  all_goals(conv=>whnf)
  all_goals first
   | exact aC.int (bI om h4 asm).symm
   | (refine⟨14+1,⟨by omega,dP h4 om⟩,by omega,?_⟩
      exact lq0)
 ·
  have hf:=cQ d 15 om;have hk:=hc 15 om;repeat' ((conv=>whnf);first|refine Idx.at (f:=D.str) (l:=af) 15 rfl (kD rfl) ?_|exact kQ|(refine bk ?_ ?_<;>intro _<;>try(exfalso;omega))|refine stq ?_|refine cp hf ?_|refine cp hk ?_|fail)
  all_goals(conv=>whnf)
  all_goals first
   | exact aC.int (bI om h4 asm).symm
   | (refine⟨15+1,⟨by omega,dP h4 om⟩,by omega,?_⟩
      exact lq0)
 ·
  have hf:=cQ d 16 om;have hk:=hc 16 om;repeat' ((conv=>whnf);first|refine Idx.at (f:=D.str) (l:=af) 16 rfl (kD rfl) ?_|exact kQ|(refine bk ?_ ?_<;>intro _<;>try(exfalso;omega))|refine stq ?_|refine cp hf ?_|refine cp hk ?_|fail)
  all_goals(conv=>whnf)
  all_goals first
   | exact aC.int (bI om h4 asm).symm
   | (refine⟨16+1,⟨by omega,dP h4 om⟩,by omega,?_⟩
      exact lq0)
 ·
  have hf:=cQ d 17 om;have hk:=hc 17 om;repeat' ((conv=>whnf);first|refine Idx.at (f:=D.str) (l:=af) 17 rfl (kD rfl) ?_|exact kQ|(refine bk ?_ ?_<;>intro _<;>try(exfalso;omega))|refine stq ?_|refine cp hf ?_|refine cp hk ?_|fail)
  all_goals(conv=>whnf)
  all_goals first
   | exact aC.int (bI om h4 asm).symm
   | (refine⟨17+1,⟨by omega,dP h4 om⟩,by omega,?_⟩
      exact lq0)
 ·
  have hf:=cQ d 18 om;have hk:=hc 18 om;repeat' ((conv=>whnf);first|refine Idx.at (f:=D.str) (l:=af) 18 rfl (kD rfl) ?_|exact kQ|(refine bk ?_ ?_<;>intro _<;>try(exfalso;omega))|refine stq ?_|refine cp hf ?_|refine cp hk ?_|fail)
  all_goals(conv=>whnf)
  all_goals first
   | exact aC.int (bI om h4 asm).symm
   | (refine⟨18+1,⟨by omega,dP h4 om⟩,by omega,?_⟩
      exact lq0)
 ·
  have hf:=cQ d 19 om;have hk:=hc 19 om;repeat' ((conv=>whnf);first|refine Idx.at (f:=D.str) (l:=af) 19 rfl (kD rfl) ?_|exact kQ|(refine bk ?_ ?_<;>intro _<;>try(exfalso;omega))|refine stq ?_|refine cp hf ?_|refine cp hk ?_|fail)
  all_goals(conv=>whnf)
  all_goals first
   | exact aC.int (bI om h4 asm).symm
   | (refine⟨19+1,⟨by omega,dP h4 om⟩,by omega,?_⟩
      exact lq0)
 ·
  have hf:=cQ d 20 om;have hk:=hc 20 om;repeat' ((conv=>whnf);first|refine Idx.at (f:=D.str) (l:=af) 20 rfl (kD rfl) ?_|exact kQ|(refine bk ?_ ?_<;>intro _<;>try(exfalso;omega))|refine stq ?_|refine cp hf ?_|refine cp hk ?_|fail)
  all_goals(conv=>whnf)
  all_goals first
   | exact aC.int (bI om h4 asm).symm
   | (refine⟨20+1,⟨by omega,dP h4 om⟩,by omega,?_⟩
      exact lq0)
 ·repeat' ((conv=>whnf);first|exact kQ|(refine bk ?_ ?_<;>intro _<;>try(exfalso;omega))|refine stq ?_)
  all_goals(conv=>whnf)
  exact aC.int (kz.2 h4).symm
end
section
open Go Go.Am Classical
set_option maxRecDepth 100000
theorem xHJ.rbX {p:Prop}(h:p:=by first|exact Rb.cells (Rds.same (cT _)) rfl|fail):p:=h
open xHJ
section
variable [GT]
noncomputable def errs (d:Db) (em:Nat->Int):Nat->Int
 | 0=>if uH d.major∧uH d.minor then 0 else 1
 | 1=>if PrV d.cat then 0 else 11
 | 2=>if PrV d.wid then 0 else 11
 | 3=>if PrV d.scr then 0 else 11
 | 4=>if PrV d.gra then 0 else 11
 | 5=>if PrV d.wor then 0 else 11
 | 6=>if PrV d.sen then 0 else 11
 | 7=>if PrV d.lin then 0 else 11
 | 8=>if ClV d.classes then 0 else 11
 | 9=>em 9
 | 10=>if cr d.excl then 0 else 11
 | 11=>em 11
 | 12=>em 12
 | 13=>em 13
 | 14=>em 14
 | 15=>if cr d.cased then 0 else 11
 | 16=>if cr d.ignor then 0 else 11
 | 17=>if cr d.start then 0 else 11
 | 18=>if cr d.cont then 0 else 11
 | 19=>if cr d.medial then 0 else 11
 | _=>em 20
theorem ite0 {p:Prop} [Decidable p] {n:Int}(hn:n≠0):(if p then 0 else n)=0↔p:=by
 by_cases h:p<;>simp[h,hn]
theorem xQ {d:Db}{em:Nat->Int}(hem:∀ k,em k=0↔MOk (fm d k)):∀ k,k<21->(errs d em k=0↔IP d k):=by
 intro k hk;rcases(by omega:k=0∨k=1∨k=2∨k=3∨k=4∨k=5∨k=6∨k=7∨k=8∨k=9∨k=10∨k=11∨k=12∨k=13∨k=14∨k=15∨k=16∨k=17∨k=18∨k=19∨k=20) with rfl|rfl|rfl|rfl|rfl|rfl|rfl|rfl|rfl|rfl|rfl|rfl|rfl|rfl|rfl|rfl|rfl|rfl|rfl|rfl|rfl
 all_goals first
  | exact ite0 om
  | exact hem _
theorem SmD.maps {d:Db}(ho:d.ok) (hs:SmD d){k:Nat}(hk:k<21):Fq (fm d k):=⟨by have:=(hs.2.2.2 k hk).2;omega,λi h=>((ho.maps k).2 i h).1,λi h=>((ho.maps k).2 i h).2⟩
theorem wq {d:Db}{k:Nat}(hk:¬k<21):fm d k=fm d 20:=by
 unfold fm;split<;>first|omega|rfl
theorem lC {d:Db}(ho:d.ok) (hs:SmD d):∃ e:Int,Pu Tryz.prog 57 [dbD d] (i64 e)∧(e=0↔DbV d):=by
 have hm:∀ k,∃ e:Int,Pu Tryz.prog 315 [cH (fm d k)] (i64 e)∧(e=0↔MOk (fm d k)):=λk=>by
  by_cases hk:k<21
  ·exact ws (SmD.maps ho hs hk)
  ·rw[wq hk];exact ws (SmD.maps ho hs om)
 let em:Nat->Int:=λk=>Classical.choose (hm k)
 have h1:∀ k,Pu Tryz.prog 315 [cH (fm d k)] (i64 (em k)):=λk=>(Classical.choose_spec (hm k)).1
 have h2:∀ k,em k=0↔MOk (fm d k):=λk=>(Classical.choose_spec (hm k)).2
 have hr:∀ n,aF ((dbC d).drop n)=true:=λn=>jq n (cT d)
 refine⟨gY ((List.range 21).map (errs d em)),E9 λk hk=>?_,?_⟩
 ·rcases(by omega:k=0∨k=1∨k=2∨k=3∨k=4∨k=5∨k=6∨k=7∨k=8∨k=9∨k=10∨k=11∨k=12∨k=13∨k=14∨k=15∨k=16∨k=17∨k=18∨k=19∨k=20) with rfl|rfl|rfl|rfl|rfl|rfl|rfl|rfl|rfl|rfl|rfl|rfl|rfl|rfl|rfl|rfl|rfl|rfl|rfl|rfl|rfl
  ·exact C5 (hr 2)
  ·exact gH (p:=d.cat) (ho.prop 0) (hr 4)
  ·exact gH (p:=d.wid) (ho.prop 1) (hr 6)
  ·exact gH (p:=d.scr) (ho.prop 2) (hr 8)
  ·exact gH (p:=d.gra) (ho.prop 3) (hr 10)
  ·exact gH (p:=d.wor) (ho.prop 4) (hr 12)
  ·exact gH (p:=d.sen) (ho.prop 5) (hr 14)
  ·exact gH (p:=d.lin) (ho.prop 6) (hr 16)
  ·exact FS ho.classes (hr 17)
  ·exact iW (l:=d.decomp) (h1 9) (hr 18)
  ·exact iL (l:=d.excl) (hs.2.2.1 0 om) (hr 19)
  ·exact iW (l:=d.lower) (h1 11) (hr 20)
  ·exact iW (l:=d.upper) (h1 12) (hr 21)
  ·exact iW (l:=d.title) (h1 13) (hr 22)
  ·exact iW (l:=d.fold) (h1 14) (hr 23)
  ·exact iL (l:=d.cased) (hs.2.2.1 1 om) (hr 24)
  ·exact iL (l:=d.ignor) (hs.2.2.1 2 om) (hr 25)
  ·exact iL (l:=d.start) (hs.2.2.1 3 om) (hr 26)
  ·exact iL (l:=d.cont) (hs.2.2.1 4 om) (hr 27)
  ·exact iL (l:=d.medial) (hs.2.2.1 5 om) (hr 28)
  ·exact iW (l:=d.confu) (h1 20) (hr 29)
 ·rw[kz];exact forall_congr' λk=>forall_congr' λhk=>xQ h2 k hk
noncomputable def GR (d:Db) (em:Nat->Int) (k:Nat):Int:=if k=0 then 0 else errs d em k
set_option maxHeartbeats 16000000 in
theorem CI {d:Db}(ho:d.ok) (hs:SmD d){em:Nat->Int}(hem:∀ k,Pu Tryz.prog 68 [cH (fm d k)] (i64 (em k))):∀ k:Nat,k<21->Pu Tryz.prog 46 [dbD d,i64 (k:Int)] (i64 (GR d em k)):=by
 intro k hk;rcases(by omega:k=0∨k=1∨k=2∨k=3∨k=4∨k=5∨k=6∨k=7∨k=8∨k=9∨k=10∨k=11∨k=12∨k=13∨k=14∨k=15∨k=16∨k=17∨k=18∨k=19∨k=20) with rfl|rfl|rfl|rfl|rfl|rfl|rfl|rfl|rfl|rfl|rfl|rfl|rfl|rfl|rfl|rfl|rfl|rfl|rfl|rfl|rfl
 ·
  refine pv Tryz.func46 ?_;repeat' ((conv=>whnf);first|refine Br.strF rfl ?_|refine Br.strT rfl ?_|refine Idx.at (f:=D.str) (l:=af) 0 rfl (kD rfl) ?_|exact kQ|(refine bk ?_ ?_<;>intro _<;>try(exfalso;omega))|refine stq ?_|refine cp ap ?_|fail)
  all_goals(conv=>whnf)
  all_goals first
   | (refine aC.int (Eq.symm ?_);show(if True then(0:Int) else 11)=0;exact if_pos asm)
   | (refine aC.int (Eq.symm ?_);show(if True then(0:Int) else 11)=11;exact if_neg asm)
   | exact aC.int rfl
 ·
  have h1:Pu Tryz.prog 47 [dbD d,i64 ((1:Nat)-1:Int)] (bw (prop d 0)):=gt d 0 om;have h2:=ek (ho.prop 0);refine pv Tryz.func46 ?_;repeat' ((conv=>whnf);first|refine Br.strF rfl ?_|refine Br.strT rfl ?_|refine Idx.at (f:=D.str) (l:=af) 1 rfl (kD rfl) ?_|exact kQ|(refine bk ?_ ?_<;>intro _<;>try(exfalso;omega))|refine stq ?_|refine cp ap ?_|refine cp h1 ?_|refine cd h2 (λ_=>?_) (λ_=>?_)|fail)
  all_goals(conv=>whnf)
  all_goals first
   | (refine aC.int (Eq.symm ?_);show(if PrV d.cat then(0:Int) else 11)=0;exact if_pos asm)
   | (refine aC.int (Eq.symm ?_);show(if PrV d.cat then(0:Int) else 11)=11;exact if_neg asm)
   | exact aC.int rfl
 ·
  have h1:Pu Tryz.prog 47 [dbD d,i64 ((2:Nat)-1:Int)] (bw (prop d 1)):=gt d 1 om;have h2:=ek (ho.prop 1);refine pv Tryz.func46 ?_;repeat' ((conv=>whnf);first|refine Br.strF rfl ?_|refine Br.strT rfl ?_|refine Idx.at (f:=D.str) (l:=af) 2 rfl (kD rfl) ?_|exact kQ|(refine bk ?_ ?_<;>intro _<;>try(exfalso;omega))|refine stq ?_|refine cp ap ?_|refine cp h1 ?_|refine cd h2 (λ_=>?_) (λ_=>?_)|fail)
  all_goals(conv=>whnf)
  all_goals first
   | (refine aC.int (Eq.symm ?_);show(if PrV d.wid then(0:Int) else 11)=0;exact if_pos asm)
   | (refine aC.int (Eq.symm ?_);show(if PrV d.wid then(0:Int) else 11)=11;exact if_neg asm)
   | exact aC.int rfl
 ·
  have h1:Pu Tryz.prog 47 [dbD d,i64 ((3:Nat)-1:Int)] (bw (prop d 2)):=gt d 2 om;have h2:=ek (ho.prop 2);refine pv Tryz.func46 ?_;repeat' ((conv=>whnf);first|refine Br.strF rfl ?_|refine Br.strT rfl ?_|refine Idx.at (f:=D.str) (l:=af) 3 rfl (kD rfl) ?_|exact kQ|(refine bk ?_ ?_<;>intro _<;>try(exfalso;omega))|refine stq ?_|refine cp ap ?_|refine cp h1 ?_|refine cd h2 (λ_=>?_) (λ_=>?_)|fail)
  all_goals(conv=>whnf)
  all_goals first
   | (refine aC.int (Eq.symm ?_);show(if PrV d.scr then(0:Int) else 11)=0;exact if_pos asm)
   | (refine aC.int (Eq.symm ?_);show(if PrV d.scr then(0:Int) else 11)=11;exact if_neg asm)
   | exact aC.int rfl
 ·
  have h1:Pu Tryz.prog 47 [dbD d,i64 ((4:Nat)-1:Int)] (bw (prop d 3)):=gt d 3 om;have h2:=ek (ho.prop 3);refine pv Tryz.func46 ?_;repeat' ((conv=>whnf);first|refine Br.strF rfl ?_|refine Br.strT rfl ?_|refine Idx.at (f:=D.str) (l:=af) 4 rfl (kD rfl) ?_|exact kQ|(refine bk ?_ ?_<;>intro _<;>try(exfalso;omega))|refine stq ?_|refine cp ap ?_|refine cp h1 ?_|refine cd h2 (λ_=>?_) (λ_=>?_)|fail)
  all_goals(conv=>whnf)
  all_goals first
   | (refine aC.int (Eq.symm ?_);show(if PrV d.gra then(0:Int) else 11)=0;exact if_pos asm)
   | (refine aC.int (Eq.symm ?_);show(if PrV d.gra then(0:Int) else 11)=11;exact if_neg asm)
   | exact aC.int rfl
 ·
  have h1:Pu Tryz.prog 47 [dbD d,i64 ((5:Nat)-1:Int)] (bw (prop d 4)):=gt d 4 om;have h2:=ek (ho.prop 4);refine pv Tryz.func46 ?_;repeat' ((conv=>whnf);first|refine Br.strF rfl ?_|refine Br.strT rfl ?_|refine Idx.at (f:=D.str) (l:=af) 5 rfl (kD rfl) ?_|exact kQ|(refine bk ?_ ?_<;>intro _<;>try(exfalso;omega))|refine stq ?_|refine cp ap ?_|refine cp h1 ?_|refine cd h2 (λ_=>?_) (λ_=>?_)|fail)
  all_goals(conv=>whnf)
  all_goals first
   | (refine aC.int (Eq.symm ?_);show(if PrV d.wor then(0:Int) else 11)=0;exact if_pos asm)
   | (refine aC.int (Eq.symm ?_);show(if PrV d.wor then(0:Int) else 11)=11;exact if_neg asm)
   | exact aC.int rfl
 ·
  have h1:Pu Tryz.prog 47 [dbD d,i64 ((6:Nat)-1:Int)] (bw (prop d 5)):=gt d 5 om;have h2:=ek (ho.prop 5);refine pv Tryz.func46 ?_;repeat' ((conv=>whnf);first|refine Br.strF rfl ?_|refine Br.strT rfl ?_|refine Idx.at (f:=D.str) (l:=af) 6 rfl (kD rfl) ?_|exact kQ|(refine bk ?_ ?_<;>intro _<;>try(exfalso;omega))|refine stq ?_|refine cp ap ?_|refine cp h1 ?_|refine cd h2 (λ_=>?_) (λ_=>?_)|fail)
  all_goals(conv=>whnf)
  all_goals first
   | (refine aC.int (Eq.symm ?_);show(if PrV d.sen then(0:Int) else 11)=0;exact if_pos asm)
   | (refine aC.int (Eq.symm ?_);show(if PrV d.sen then(0:Int) else 11)=11;exact if_neg asm)
   | exact aC.int rfl
 ·
  have h1:Pu Tryz.prog 47 [dbD d,i64 ((7:Nat)-1:Int)] (bw (prop d 6)):=gt d 6 om;have h2:=ek (ho.prop 6);refine pv Tryz.func46 ?_;repeat' ((conv=>whnf);first|refine Br.strF rfl ?_|refine Br.strT rfl ?_|refine Idx.at (f:=D.str) (l:=af) 7 rfl (kD rfl) ?_|exact kQ|(refine bk ?_ ?_<;>intro _<;>try(exfalso;omega))|refine stq ?_|refine cp ap ?_|refine cp h1 ?_|refine cd h2 (λ_=>?_) (λ_=>?_)|fail)
  all_goals(conv=>whnf)
  all_goals first
   | (refine aC.int (Eq.symm ?_);show(if PrV d.lin then(0:Int) else 11)=0;exact if_pos asm)
   | (refine aC.int (Eq.symm ?_);show(if PrV d.lin then(0:Int) else 11)=11;exact if_neg asm)
   | exact aC.int rfl
 ·
  have h2:=rcls_c (l:=d.classes) ho.classes;refine pv Tryz.func46 ?_;repeat' ((conv=>whnf);first|refine Br.strF rfl ?_|refine Br.strT rfl ?_|refine Idx.at (f:=D.str) (l:=af) 8 rfl (kD rfl) ?_|exact kQ|(refine bk ?_ ?_<;>intro _<;>try(exfalso;omega))|refine stq ?_|refine cp ap ?_|refine cd h2 (λ_=>?_) (λ_=>?_)|fail)
  all_goals(conv=>whnf)
  all_goals first
   | (refine aC.int (Eq.symm ?_);show(if ClV d.classes then(0:Int) else 11)=0;exact if_pos asm)
   | (refine aC.int (Eq.symm ?_);show(if ClV d.classes then(0:Int) else 11)=11;exact if_neg asm)
   | exact aC.int rfl
 ·
  have h0:Pu Tryz.prog 66 [.str (gx 9)] (i64 (-1)):=dZ 9 om;have h1:=lk d 9 om;have h2:=hem 9;refine pv Tryz.func46 ?_;repeat' ((conv=>whnf);first|refine Br.strF rfl ?_|refine Br.strT rfl ?_|refine Idx.at (f:=D.str) (l:=af) 9 rfl (kD rfl) ?_|exact kQ|(refine bk ?_ ?_<;>intro _<;>try(exfalso;omega))|refine stq ?_|refine cp ap ?_|refine cp h0 ?_|refine cp h1 ?_|refine cp h2 ?_|fail)
  all_goals(conv=>whnf)
  all_goals first
   | (refine aC.int (Eq.symm ?_);show(if True then(0:Int) else 11)=0;exact if_pos asm)
   | (refine aC.int (Eq.symm ?_);show(if True then(0:Int) else 11)=11;exact if_neg asm)
   | exact aC.int rfl
 ·
  have h0:Pu Tryz.prog 66 [.str (gx 10)] (i64 (0)):=dZ 10 om;have h1:=lh d 0 om;have h2:=dv (rs:=d.excl) (hs.2.2.1 0 om);refine pv Tryz.func46 ?_;repeat' ((conv=>whnf);first|refine Br.strF rfl ?_|refine Br.strT rfl ?_|refine Idx.at (f:=D.str) (l:=af) 10 rfl (kD rfl) ?_|exact kQ|(refine bk ?_ ?_<;>intro _<;>try(exfalso;omega))|refine stq ?_|refine cp ap ?_|refine cp h0 ?_|refine cp h1 ?_|refine cd h2 (λ_=>?_) (λ_=>?_)|fail)
  all_goals(conv=>whnf)
  all_goals first
   | (refine aC.int (Eq.symm ?_);show(if cr d.excl then(0:Int) else 11)=0;exact if_pos asm)
   | (refine aC.int (Eq.symm ?_);show(if cr d.excl then(0:Int) else 11)=11;exact if_neg asm)
   | exact aC.int rfl
 ·
  have h0:Pu Tryz.prog 66 [.str (gx 11)] (i64 (-1)):=dZ 11 om;have h1:=lk d 11 om;have h2:=hem 11;refine pv Tryz.func46 ?_;repeat' ((conv=>whnf);first|refine Br.strF rfl ?_|refine Br.strT rfl ?_|refine Idx.at (f:=D.str) (l:=af) 11 rfl (kD rfl) ?_|exact kQ|(refine bk ?_ ?_<;>intro _<;>try(exfalso;omega))|refine stq ?_|refine cp ap ?_|refine cp h0 ?_|refine cp h1 ?_|refine cp h2 ?_|fail)
  all_goals(conv=>whnf)
  all_goals first
   | (refine aC.int (Eq.symm ?_);show(if True then(0:Int) else 11)=0;exact if_pos asm)
   | (refine aC.int (Eq.symm ?_);show(if True then(0:Int) else 11)=11;exact if_neg asm)
   | exact aC.int rfl
 ·
  have h0:Pu Tryz.prog 66 [.str (gx 12)] (i64 (-1)):=dZ 12 om;have h1:=lk d 12 om;have h2:=hem 12;refine pv Tryz.func46 ?_;repeat' ((conv=>whnf);first|refine Br.strF rfl ?_|refine Br.strT rfl ?_|refine Idx.at (f:=D.str) (l:=af) 12 rfl (kD rfl) ?_|exact kQ|(refine bk ?_ ?_<;>intro _<;>try(exfalso;omega))|refine stq ?_|refine cp ap ?_|refine cp h0 ?_|refine cp h1 ?_|refine cp h2 ?_|fail)
  all_goals(conv=>whnf)
  all_goals first
   | (refine aC.int (Eq.symm ?_);show(if True then(0:Int) else 11)=0;exact if_pos asm)
   | (refine aC.int (Eq.symm ?_);show(if True then(0:Int) else 11)=11;exact if_neg asm)
   | exact aC.int rfl
 ·
  have h0:Pu Tryz.prog 66 [.str (gx 13)] (i64 (-1)):=dZ 13 om;have h1:=lk d 13 om;have h2:=hem 13;refine pv Tryz.func46 ?_;repeat' ((conv=>whnf);first|refine Br.strF rfl ?_|refine Br.strT rfl ?_|refine Idx.at (f:=D.str) (l:=af) 13 rfl (kD rfl) ?_|exact kQ|(refine bk ?_ ?_<;>intro _<;>try(exfalso;omega))|refine stq ?_|refine cp ap ?_|refine cp h0 ?_|refine cp h1 ?_|refine cp h2 ?_|fail)
  all_goals(conv=>whnf)
  all_goals first
   | (refine aC.int (Eq.symm ?_);show(if True then(0:Int) else 11)=0;exact if_pos asm)
   | (refine aC.int (Eq.symm ?_);show(if True then(0:Int) else 11)=11;exact if_neg asm)
   | exact aC.int rfl
 ·
  have h0:Pu Tryz.prog 66 [.str (gx 14)] (i64 (-1)):=dZ 14 om;have h1:=lk d 14 om;have h2:=hem 14;refine pv Tryz.func46 ?_;repeat' ((conv=>whnf);first|refine Br.strF rfl ?_|refine Br.strT rfl ?_|refine Idx.at (f:=D.str) (l:=af) 14 rfl (kD rfl) ?_|exact kQ|(refine bk ?_ ?_<;>intro _<;>try(exfalso;omega))|refine stq ?_|refine cp ap ?_|refine cp h0 ?_|refine cp h1 ?_|refine cp h2 ?_|fail)
  all_goals(conv=>whnf)
  all_goals first
   | (refine aC.int (Eq.symm ?_);show(if True then(0:Int) else 11)=0;exact if_pos asm)
   | (refine aC.int (Eq.symm ?_);show(if True then(0:Int) else 11)=11;exact if_neg asm)
   | exact aC.int rfl
 ·
  have h0:Pu Tryz.prog 66 [.str (gx 15)] (i64 (1)):=dZ 15 om;have h1:=lh d 1 om;have h2:=dv (rs:=d.cased) (hs.2.2.1 1 om);refine pv Tryz.func46 ?_;repeat' ((conv=>whnf);first|refine Br.strF rfl ?_|refine Br.strT rfl ?_|refine Idx.at (f:=D.str) (l:=af) 15 rfl (kD rfl) ?_|exact kQ|(refine bk ?_ ?_<;>intro _<;>try(exfalso;omega))|refine stq ?_|refine cp ap ?_|refine cp h0 ?_|refine cp h1 ?_|refine cd h2 (λ_=>?_) (λ_=>?_)|fail)
  all_goals(conv=>whnf)
  all_goals first
   | (refine aC.int (Eq.symm ?_);show(if cr d.cased then(0:Int) else 11)=0;exact if_pos asm)
   | (refine aC.int (Eq.symm ?_);show(if cr d.cased then(0:Int) else 11)=11;exact if_neg asm)
   | exact aC.int rfl
 ·
  have h0:Pu Tryz.prog 66 [.str (gx 16)] (i64 (2)):=dZ 16 om;have h1:=lh d 2 om;have h2:=dv (rs:=d.ignor) (hs.2.2.1 2 om);refine pv Tryz.func46 ?_;repeat' ((conv=>whnf);first|refine Br.strF rfl ?_|refine Br.strT rfl ?_|refine Idx.at (f:=D.str) (l:=af) 16 rfl (kD rfl) ?_|exact kQ|(refine bk ?_ ?_<;>intro _<;>try(exfalso;omega))|refine stq ?_|refine cp ap ?_|refine cp h0 ?_|refine cp h1 ?_|refine cd h2 (λ_=>?_) (λ_=>?_)|fail)
  all_goals(conv=>whnf)
  all_goals first
   | (refine aC.int (Eq.symm ?_);show(if cr d.ignor then(0:Int) else 11)=0;exact if_pos asm)
   | (refine aC.int (Eq.symm ?_);show(if cr d.ignor then(0:Int) else 11)=11;exact if_neg asm)
   | exact aC.int rfl
 ·
  have h0:Pu Tryz.prog 66 [.str (gx 17)] (i64 (3)):=dZ 17 om;have h1:=lh d 3 om;have h2:=dv (rs:=d.start) (hs.2.2.1 3 om);refine pv Tryz.func46 ?_;repeat' ((conv=>whnf);first|refine Br.strF rfl ?_|refine Br.strT rfl ?_|refine Idx.at (f:=D.str) (l:=af) 17 rfl (kD rfl) ?_|exact kQ|(refine bk ?_ ?_<;>intro _<;>try(exfalso;omega))|refine stq ?_|refine cp ap ?_|refine cp h0 ?_|refine cp h1 ?_|refine cd h2 (λ_=>?_) (λ_=>?_)|fail)
  all_goals(conv=>whnf)
  all_goals first
   | (refine aC.int (Eq.symm ?_);show(if cr d.start then(0:Int) else 11)=0;exact if_pos asm)
   | (refine aC.int (Eq.symm ?_);show(if cr d.start then(0:Int) else 11)=11;exact if_neg asm)
   | exact aC.int rfl
 ·
  have h0:Pu Tryz.prog 66 [.str (gx 18)] (i64 (4)):=dZ 18 om;have h1:=lh d 4 om;have h2:=dv (rs:=d.cont) (hs.2.2.1 4 om);refine pv Tryz.func46 ?_;repeat' ((conv=>whnf);first|refine Br.strF rfl ?_|refine Br.strT rfl ?_|refine Idx.at (f:=D.str) (l:=af) 18 rfl (kD rfl) ?_|exact kQ|(refine bk ?_ ?_<;>intro _<;>try(exfalso;omega))|refine stq ?_|refine cp ap ?_|refine cp h0 ?_|refine cp h1 ?_|refine cd h2 (λ_=>?_) (λ_=>?_)|fail)
  all_goals(conv=>whnf)
  all_goals first
   | (refine aC.int (Eq.symm ?_);show(if cr d.cont then(0:Int) else 11)=0;exact if_pos asm)
   | (refine aC.int (Eq.symm ?_);show(if cr d.cont then(0:Int) else 11)=11;exact if_neg asm)
   | exact aC.int rfl
 ·
  have h0:Pu Tryz.prog 66 [.str (gx 19)] (i64 (5)):=dZ 19 om;have h1:=lh d 5 om;have h2:=dv (rs:=d.medial) (hs.2.2.1 5 om);refine pv Tryz.func46 ?_;repeat' ((conv=>whnf);first|refine Br.strF rfl ?_|refine Br.strT rfl ?_|refine Idx.at (f:=D.str) (l:=af) 19 rfl (kD rfl) ?_|exact kQ|(refine bk ?_ ?_<;>intro _<;>try(exfalso;omega))|refine stq ?_|refine cp ap ?_|refine cp h0 ?_|refine cp h1 ?_|refine cd h2 (λ_=>?_) (λ_=>?_)|fail)
  all_goals(conv=>whnf)
  all_goals first
   | (refine aC.int (Eq.symm ?_);show(if cr d.medial then(0:Int) else 11)=0;exact if_pos asm)
   | (refine aC.int (Eq.symm ?_);show(if cr d.medial then(0:Int) else 11)=11;exact if_neg asm)
   | exact aC.int rfl
 ·
  have h0:Pu Tryz.prog 66 [.str (gx 20)] (i64 (-1)):=dZ 20 om;have h1:=lk d 20 om;have h2:=hem 20;refine pv Tryz.func46 ?_;repeat' ((conv=>whnf);first|refine Br.strF rfl ?_|refine Br.strT rfl ?_|refine Idx.at (f:=D.str) (l:=af) 20 rfl (kD rfl) ?_|exact kQ|(refine bk ?_ ?_<;>intro _<;>try(exfalso;omega))|refine stq ?_|refine cp ap ?_|refine cp h0 ?_|refine cp h1 ?_|refine cp h2 ?_|fail)
  all_goals(conv=>whnf)
  all_goals first
   | (refine aC.int (Eq.symm ?_);show(if True then(0:Int) else 11)=0;exact if_pos asm)
   | (refine aC.int (Eq.symm ?_);show(if True then(0:Int) else 11)=11;exact if_neg asm)
   | exact aC.int rfl
theorem ym {d:Db}(ho:d.ok) (hs:SmD d):∃ e:Int,Pu Tryz.prog 23 [dbD d] (i64 e)∧(e=0↔DbV d):=by
 have hm:∀ k,∃ e:Int,Pu Tryz.prog 68 [cH (fm d k)] (i64 e)∧(e=0↔MOk (fm d k)):=λk=>by
  by_cases hk:k<21
  ·exact sc (SmD.maps ho hs hk)
  ·rw[wq hk];exact sc (SmD.maps ho hs om)
 let em:Nat->Int:=λk=>Classical.choose (hm k)
 have h1:∀ k,Pu Tryz.prog 68 [cH (fm d k)] (i64 (em k)):=λk=>(Classical.choose_spec (hm k)).1
 have h2:∀ k,em k=0↔MOk (fm d k):=λk=>(Classical.choose_spec (hm k)).2
 by_cases hv:uH d.major∧uH d.minor
 ·refine⟨gY ((List.range 21).map (GR d em)),?_,?_⟩
  ·refine pv Tryz.func23 ?_;repeat' ((conv=>whnf);first|exact kQ|(refine bk ?_ ?_<;>intro _<;>try(exfalso;omega))|refine stq ?_|refine cd z8 (λ_=>?_) (λ_=>?_)|fail)
   all_goals(conv=>whnf)
   all_goals first
    | (exfalso;rename_i h;exact h hv.1)
    | (exfalso;rename_i h;exact h hv.2)
    | skip
   refine aH.by aB T0 (λk:Nat=>⟨tmp 29 [(1,.ptr 0 0),(3,i64 (k:Int))],⟨1,[(0,.cells (dbC d) true)]⟩⟩)
    (λk=>k<=21∧∀ i,i<k->GR d em i=0) (λk=>21-k) 0 ⟨by omega,λ_ h=>by omega⟩ ?_ ?_
   ·exact lq [(0,_)] []
   intro k ⟨h3,h4⟩;have hfl:af.length=21:=rfl;by_cases hk:k<21
   ·have hf:=CI ho hs h1 k hk;repeat' ((conv=>whnf);first|exact kQ|(refine bk ?_ ?_<;>intro _<;>try(exfalso;omega))|refine stq ?_|refine cp ap ?_|refine cp hf ?_|fail)
    all_goals(conv=>whnf)
    all_goals first
     | exact aC.int (bI hk h4 asm).symm
     | (refine⟨k+1,⟨by omega,dP h4 om⟩,by omega,?_⟩
        exact lq [(0,_)] [])
   ·repeat' ((conv=>whnf);first|exact kQ|(refine bk ?_ ?_<;>intro _<;>try(exfalso;omega))|refine stq ?_|refine cp ap ?_|fail)
    all_goals(conv=>whnf)
    exact aC.int (kz.2 λi hi=>h4 i om).symm
  ·rw[kz];refine forall_congr' λk=>forall_congr' λhk=>?_
   by_cases hk0:k=0
   ·subst hk0;exact⟨λ_=>hv,λ_=>rfl⟩
   ·rw[GR,if_neg hk0];exact xQ h2 k hk
 ·refine⟨1,?_,λh=>by omega,λh=>absurd (h 0 om) hv⟩;refine pv Tryz.func23 ?_;repeat' ((conv=>whnf);first|exact kQ|(refine bk ?_ ?_<;>intro _<;>try(exfalso;omega))|refine stq ?_|refine cd z8 (λ_=>?_) (λ_=>?_)|fail)
  all_goals(conv=>whnf)
  all_goals first
   | exact aC.same rfl rfl
   | (exfalso;rename_i h1 h2;exact hv ⟨h1,h2⟩)
end
end
section
open Go Go.Am Classical
set_option maxRecDepth 100000
variable [GT]
theorem wS {α:Type}{f:α->D}(h:∀ x,one (f x)=true):∀ l:List α,eV (l.map f)=true
 | []=>rfl
 | x::l=>by simp[eV,h,wS h l]
theorem wT:∀ a b:List D,eV (a++b)=(eV a&&eV b)
 | [],b=>by simp[eV]
 | d::a,b=>by simp[eV,wT a b,Bool.and_assoc]
theorem sw {α:Type}{c:α->List D}(h:∀ x,eV (c x)=true):∀ l:List α,eV (l.flatMap c)=true
 | []=>rfl
 | x::l=>by simp[wT,h,sw h l]
theorem eX.lstS {α:Type}{c:α->List D}{sz:Nat}(hc:∀ x,(c x).length=sz){h:aA}{l:List α}{K:Nat->List D->Prop}(go:K l.length (l.flatMap c)):eX h sz (.imm l.length (l.flatMap c)) K:=⟨_,_,by simp[cC,aZ hc],go⟩
theorem Rd.frzT {h:aA}{fz:Nat->Bool}{σ:Nat->Option Nat}{l:List Str}{id n cap es:Nat}{ex:Bool}{cs:List D}{bx:Bool}(hf:fz id=true) (hg:h.get id=some (.cells cs bx)) (hn:n=l.length) (he:es=1) (hc:cs=l.map D.str):Rd h fz σ (.sl id 0 n cap es ex) (strs l):=by
 rw[show strs l=lstS (λs=>[D.str s]) l from(qv l).symm];exact Rd.frzL (c:=λs:Str=>[D.str s]) (sz:=1) (λ_=>rfl) (λ_=>rfl) hf hg hn he (by rw[hc,aN])
theorem FT {l:List Str}(hl:l.length<=1000):Pu Tryz.prog 78 [strs l] (strs l):=by
 cases l with
 | nil=>
  refine Pu.empty ?_ ?_
  ·refine pv Tryz.func78 ?_;repeat' ((conv=>whnf);first|exact kQ|(refine bk ?_ ?_<;>intro _<;>try(exfalso;omega))|refine stq ?_)
   all_goals(conv=>whnf)
   exact⟨.nil⟩
  ·refine pv Tryz.func78 ?_;repeat' ((conv=>whnf);first|exact kQ|(refine bk ?_ ?_<;>intro _<;>try(exfalso;omega))|refine stq ?_)
   all_goals(conv=>whnf)
   exact⟨Rd.frz rfl rfl (kD rfl) (Rds.eqs rfl rfl)⟩
 | cons x xs=>
  have hx2:(x::xs).length=xs.length+1:=rfl;refine pv Tryz.func78 ?_;repeat' ((conv=>whnf);first|exact kQ|(refine bk ?_ ?_<;>intro _<;>try(exfalso;omega))|refine stq ?_|refine eX.lst ?_|refine Chk.mk (wS (λ_=>rfl) _) ?_|refine Chk.growX 16 1 rfl rfl om om si ?_)
  all_goals(conv=>whnf)
  exact⟨Rd.frzT rfl rfl si rfl si⟩
theorem DU (s:Spn):(DV s).length=3:=rfl
theorem FU {l:List Spn}(hl:l.length<=1000):Pu Tryz.prog 79 [cV l] (cV l):=by
 cases l with
 | nil=>
  refine Pu.empty ?_ ?_
  ·refine pv Tryz.func79 ?_;repeat' ((conv=>whnf);first|exact kQ|(refine bk ?_ ?_<;>intro _<;>try(exfalso;omega))|refine stq ?_)
   all_goals(conv=>whnf)
   exact⟨.nil⟩
  ·refine pv Tryz.func79 ?_;repeat' ((conv=>whnf);first|exact kQ|(refine bk ?_ ?_<;>intro _<;>try(exfalso;omega))|refine stq ?_)
   all_goals(conv=>whnf)
   exact⟨Rd.frz rfl rfl (kD rfl) (Rds.eqs rfl rfl)⟩
 | cons x xs=>
  have hx2:(x::xs).length=xs.length+1:=rfl;refine pv Tryz.func79 ?_;repeat' ((conv=>whnf);first|exact kQ|(refine bk ?_ ?_<;>intro _<;>try(exfalso;omega))|refine stq ?_|refine eX.lstS (c:=DV) (sz:=3) (l:=x::xs) (λ_=>rfl) ?_|refine Chk.mk (sw (λ_=>rfl) _) ?_|refine Chk.growX 24 3 rfl rfl om om si ?_)
  all_goals(conv=>whnf)
  exact⟨Rd.frzL DU (λ_=>rfl) rfl rfl si rfl si⟩
set_option maxHeartbeats 8000000 in
theorem pa {d:Db}(hs:∀ k,k<7->(prop d k).names.length<=30∧(prop d k).spans.length<=16):∀ k:Nat,k<7->Pu Tryz.prog 58 [dbD d,i64 (k:Int)] (bw (prop d k)):=by
 intro k hk;have hn:=s9 (prop d k);have h1:=hs k hk;have c1:=FT (l:=(prop d k).names) om;have c2:=FU (l:=(prop d k).spans) om;rcases(by omega:k=0∨k=1∨k=2∨k=3∨k=4∨k=5∨k=6) with rfl|rfl|rfl|rfl|rfl|rfl|rfl
 all_goals
  refine pv Tryz.func58 ?_;repeat' ((conv=>whnf);first|exact kQ|(refine bk ?_ ?_<;>intro _<;>try(exfalso;omega))|refine stq ?_|refine cp c1 ?_|refine cp c2 ?_|(apply Cll.inl aB T0 Tryz.func77 rfl rfl ?_;rotate_left)|exact⟨Or.inr rfl,rfl,rfl⟩|refine ac.by (id:=4) aB T0 [0,1,3,7,15,0,32,96,224,511,1023,2047] (by kernel_rfl) ?_|refine Chk.mk ⟨_,rfl⟩ ?_|fail)
  all_goals(conv=>whnf)
  exact⟨Rd.eqd rfl hn⟩
end
end Go.Proofs.YtpgcjpcenaefpaaGreatDoor
