/-
  Contracts of functions over data: databases checked by the program.
-/
import Derived.Test.YtpgcjpcenaefpaaGreatDoorH5
import Derived.Test.YtpgcjpcenaefpaaGreatDoorHE
import Derived.Test.YtpgcjpcenaefpaaGreatDoorG0
import Derived.Test.YtpgcjpcenaefpaaGreatDoorAmF
set_option linter.unusedSectionVars false
namespace Go.Proofs.YtpgcjpcenaefpaaGreatDoor
section
open Go Go.Am Classical
set_option maxRecDepth 100000
theorem xHI.rdX {p:Prop}(h:p:=by first|exact Rd.frzp rfl rfl (Rds.eqs rfl (cS _))|exact Rd.int rfl|exact Rd.same (cS _)|fail):p:=h
open xHI
variable [GT]
theorem bN {a:Nat->Int}{n k:Nat}(hk:k<n) (h:∀ i,i<k->a i=0) (h0:a k≠0):gy ((List.range n).map a)=a k:=by
 have:=vN (l:=(List.range n).map a) (k:=k) (by simpa using hk) (λi hi hik=>by simpa using h i hik) (by simpa using h0)
 simpa using this
theorem lL {a:Nat->Int}{n:Nat}:gy ((List.range n).map a)=0↔∀ i,i<n->a i=0:=by
 rw[lK];constructor
 .intro h i hi;have:=h i (by simpa using hi)
  simpa using this
 .intro h i hi
  have:i<n:=by simpa using hi
  simpa using h i this
theorem dZ {a:Nat->Int}{k:Nat}(h:∀ i,i<k->a i=0) (h0:a k=0):∀ i,i<k+1->a i=0:=λi hi=>by
 rcases(by omega:i<k\/i=k) with h1|rfl
 .exact h i h1
 .exact h0
set_option maxHeartbeats 8000000 in
theorem Fl {d:Db}{a:Nat->Int}(hc:∀ k,k<21->Pu Tryz.prog (fchk k) [.agg [.iptr ((dbC d).drop (foff k))]] (i64 (a k))):Pu Tryz.prog 57 [dbD d] (i64 (gy ((List.range 21).map a))):=by
 refine pv Tryz.func57 ?_;repeat' ((conv=>whnf);first|exact kQ|(refine bk ?_ ?_<;>intro _<;>try exact exo)|refine stq ?_|refine cp H8 ?_|fail)
 refine aG.by aB T0 (λk:Nat=>⟨tmp 19 [(1,.iptr (dbC d)),(6,strs ah),(7,i64 21),(8,i64 (k:Int))],⟨0,[]⟩⟩)
  (λk=>k<=21/\∀ i,i<k->a i=0) (λk=>21-k) 0 ⟨om,λ_ h=>om⟩ ?_ ?_
 .exact lq [] [0]
 intro k ⟨h3,h4⟩;rcases(by omega:k=0\/k=1\/k=2\/k=3\/k=4\/k=5\/k=6\/k=7\/k=8\/k=9\/k=10\/k=11\/k=12\/k=13\/k=14\/k=15\/k=16\/k=17\/k=18\/k=19\/k=20\/k=21) with rfl|rfl|rfl|rfl|rfl|rfl|rfl|rfl|rfl|rfl|rfl|rfl|rfl|rfl|rfl|rfl|rfl|rfl|rfl|rfl|rfl|rfl
 .
  have hf:=ce d 0 om;have hk:=hc 0 om;repeat' ((conv=>whnf);first|refine Idx.at (f:=D.str) (l:=ah) 0 rfl (kD rfl) ?_|exact kQ|(refine bk ?_ ?_<;>intro _<;>try exact exo)|refine stq ?_|refine cp hf ?_|refine cp hk ?_|fail)
  all_goals(conv=>whnf)
  all_goals first
   | exact aC.int (bN om h4 asm).symm
   | (refine⟨0+1,⟨om,dZ h4 om⟩,om,?_⟩
      exact lq0)
 .
  have hf:=ce d 1 om;have hk:=hc 1 om;repeat' ((conv=>whnf);first|refine Idx.at (f:=D.str) (l:=ah) 1 rfl (kD rfl) ?_|exact kQ|(refine bk ?_ ?_<;>intro _<;>try exact exo)|refine stq ?_|refine cp hf ?_|refine cp hk ?_|fail)
  all_goals(conv=>whnf)
  all_goals first
   | exact aC.int (bN om h4 asm).symm
   | (refine⟨1+1,⟨om,dZ h4 om⟩,om,?_⟩
      exact lq0)
 .
  have hf:=ce d 2 om;have hk:=hc 2 om;repeat' ((conv=>whnf);first|refine Idx.at (f:=D.str) (l:=ah) 2 rfl (kD rfl) ?_|exact kQ|(refine bk ?_ ?_<;>intro _<;>try exact exo)|refine stq ?_|refine cp hf ?_|refine cp hk ?_|fail)
  all_goals(conv=>whnf)
  all_goals first
   | exact aC.int (bN om h4 asm).symm
   | (refine⟨2+1,⟨om,dZ h4 om⟩,om,?_⟩
      exact lq0)
 .
  have hf:=ce d 3 om;have hk:=hc 3 om;repeat' ((conv=>whnf);first|refine Idx.at (f:=D.str) (l:=ah) 3 rfl (kD rfl) ?_|exact kQ|(refine bk ?_ ?_<;>intro _<;>try exact exo)|refine stq ?_|refine cp hf ?_|refine cp hk ?_|fail)
  all_goals(conv=>whnf)
  all_goals first
   | exact aC.int (bN om h4 asm).symm
   | (refine⟨3+1,⟨om,dZ h4 om⟩,om,?_⟩
      exact lq0)
 .
  have hf:=ce d 4 om;have hk:=hc 4 om;repeat' ((conv=>whnf);first|refine Idx.at (f:=D.str) (l:=ah) 4 rfl (kD rfl) ?_|exact kQ|(refine bk ?_ ?_<;>intro _<;>try exact exo)|refine stq ?_|refine cp hf ?_|refine cp hk ?_|fail)
  all_goals(conv=>whnf)
  all_goals first
   | exact aC.int (bN om h4 asm).symm
   | (refine⟨4+1,⟨om,dZ h4 om⟩,om,?_⟩
      exact lq0)
 .
  have hf:=ce d 5 om;have hk:=hc 5 om;repeat' ((conv=>whnf);first|refine Idx.at (f:=D.str) (l:=ah) 5 rfl (kD rfl) ?_|exact kQ|(refine bk ?_ ?_<;>intro _<;>try exact exo)|refine stq ?_|refine cp hf ?_|refine cp hk ?_|fail)
  all_goals(conv=>whnf)
  all_goals first
   | exact aC.int (bN om h4 asm).symm
   | (refine⟨5+1,⟨om,dZ h4 om⟩,om,?_⟩
      exact lq0)
 .
  have hf:=ce d 6 om;have hk:=hc 6 om;repeat' ((conv=>whnf);first|refine Idx.at (f:=D.str) (l:=ah) 6 rfl (kD rfl) ?_|exact kQ|(refine bk ?_ ?_<;>intro _<;>try exact exo)|refine stq ?_|refine cp hf ?_|refine cp hk ?_|fail)
  all_goals(conv=>whnf)
  all_goals first
   | exact aC.int (bN om h4 asm).symm
   | (refine⟨6+1,⟨om,dZ h4 om⟩,om,?_⟩
      exact lq0)
 .
  have hf:=ce d 7 om;have hk:=hc 7 om;repeat' ((conv=>whnf);first|refine Idx.at (f:=D.str) (l:=ah) 7 rfl (kD rfl) ?_|exact kQ|(refine bk ?_ ?_<;>intro _<;>try exact exo)|refine stq ?_|refine cp hf ?_|refine cp hk ?_|fail)
  all_goals(conv=>whnf)
  all_goals first
   | exact aC.int (bN om h4 asm).symm
   | (refine⟨7+1,⟨om,dZ h4 om⟩,om,?_⟩
      exact lq0)
 .
  have hf:=ce d 8 om;have hk:=hc 8 om;repeat' ((conv=>whnf);first|refine Idx.at (f:=D.str) (l:=ah) 8 rfl (kD rfl) ?_|exact kQ|(refine bk ?_ ?_<;>intro _<;>try exact exo)|refine stq ?_|refine cp hf ?_|refine cp hk ?_|fail)
  all_goals(conv=>whnf)
  all_goals first
   | exact aC.int (bN om h4 asm).symm
   | (refine⟨8+1,⟨om,dZ h4 om⟩,om,?_⟩
      exact lq0)
 .
  have hf:=ce d 9 om;have hk:=hc 9 om;repeat' ((conv=>whnf);first|refine Idx.at (f:=D.str) (l:=ah) 9 rfl (kD rfl) ?_|exact kQ|(refine bk ?_ ?_<;>intro _<;>try exact exo)|refine stq ?_|refine cp hf ?_|refine cp hk ?_|fail)
  all_goals(conv=>whnf)
  all_goals first
   | exact aC.int (bN om h4 asm).symm
   | (refine⟨9+1,⟨om,dZ h4 om⟩,om,?_⟩
      exact lq0)
 .
  have hf:=ce d 10 om;have hk:=hc 10 om;repeat' ((conv=>whnf);first|refine Idx.at (f:=D.str) (l:=ah) 10 rfl (kD rfl) ?_|exact kQ|(refine bk ?_ ?_<;>intro _<;>try exact exo)|refine stq ?_|refine cp hf ?_|refine cp hk ?_|fail)
  all_goals(conv=>whnf)
  all_goals first
   | exact aC.int (bN om h4 asm).symm
   | (refine⟨10+1,⟨om,dZ h4 om⟩,om,?_⟩
      exact lq0)
 .
  have hf:=ce d 11 om;have hk:=hc 11 om;repeat' ((conv=>whnf);first|refine Idx.at (f:=D.str) (l:=ah) 11 rfl (kD rfl) ?_|exact kQ|(refine bk ?_ ?_<;>intro _<;>try exact exo)|refine stq ?_|refine cp hf ?_|refine cp hk ?_|fail)
  all_goals(conv=>whnf)
  all_goals first
   | exact aC.int (bN om h4 asm).symm
   | (refine⟨11+1,⟨om,dZ h4 om⟩,om,?_⟩
      exact lq0)
 .
  have hf:=ce d 12 om;have hk:=hc 12 om;repeat' ((conv=>whnf);first|refine Idx.at (f:=D.str) (l:=ah) 12 rfl (kD rfl) ?_|exact kQ|(refine bk ?_ ?_<;>intro _<;>try exact exo)|refine stq ?_|refine cp hf ?_|refine cp hk ?_|fail)
  all_goals(conv=>whnf)
  all_goals first
   | exact aC.int (bN om h4 asm).symm
   | (refine⟨12+1,⟨om,dZ h4 om⟩,om,?_⟩
      exact lq0)
 .
  have hf:=ce d 13 om;have hk:=hc 13 om;repeat' ((conv=>whnf);first|refine Idx.at (f:=D.str) (l:=ah) 13 rfl (kD rfl) ?_|exact kQ|(refine bk ?_ ?_<;>intro _<;>try exact exo)|refine stq ?_|refine cp hf ?_|refine cp hk ?_|fail)
  all_goals(conv=>whnf)
  all_goals first
   | exact aC.int (bN om h4 asm).symm
   | (refine⟨13+1,⟨om,dZ h4 om⟩,om,?_⟩
      exact lq0)
 .
  have hf:=ce d 14 om;have hk:=hc 14 om;repeat' ((conv=>whnf);first|refine Idx.at (f:=D.str) (l:=ah) 14 rfl (kD rfl) ?_|exact kQ|(refine bk ?_ ?_<;>intro _<;>try exact exo)|refine stq ?_|refine cp hf ?_|refine cp hk ?_|fail)
  all_goals(conv=>whnf)
  all_goals first
   | exact aC.int (bN om h4 asm).symm
   | (refine⟨14+1,⟨om,dZ h4 om⟩,om,?_⟩
      exact lq0)
 .
  have hf:=ce d 15 om;have hk:=hc 15 om;repeat' ((conv=>whnf);first|refine Idx.at (f:=D.str) (l:=ah) 15 rfl (kD rfl) ?_|exact kQ|(refine bk ?_ ?_<;>intro _<;>try exact exo)|refine stq ?_|refine cp hf ?_|refine cp hk ?_|fail)
  all_goals(conv=>whnf)
  all_goals first
   | exact aC.int (bN om h4 asm).symm
   | (refine⟨15+1,⟨om,dZ h4 om⟩,om,?_⟩
      exact lq0)
 .
  have hf:=ce d 16 om;have hk:=hc 16 om;repeat' ((conv=>whnf);first|refine Idx.at (f:=D.str) (l:=ah) 16 rfl (kD rfl) ?_|exact kQ|(refine bk ?_ ?_<;>intro _<;>try exact exo)|refine stq ?_|refine cp hf ?_|refine cp hk ?_|fail)
  all_goals(conv=>whnf)
  all_goals first
   | exact aC.int (bN om h4 asm).symm
   | (refine⟨16+1,⟨om,dZ h4 om⟩,om,?_⟩
      exact lq0)
 .
  have hf:=ce d 17 om;have hk:=hc 17 om;repeat' ((conv=>whnf);first|refine Idx.at (f:=D.str) (l:=ah) 17 rfl (kD rfl) ?_|exact kQ|(refine bk ?_ ?_<;>intro _<;>try exact exo)|refine stq ?_|refine cp hf ?_|refine cp hk ?_|fail)
  all_goals(conv=>whnf)
  all_goals first
   | exact aC.int (bN om h4 asm).symm
   | (refine⟨17+1,⟨om,dZ h4 om⟩,om,?_⟩
      exact lq0)
 .
  have hf:=ce d 18 om;have hk:=hc 18 om;repeat' ((conv=>whnf);first|refine Idx.at (f:=D.str) (l:=ah) 18 rfl (kD rfl) ?_|exact kQ|(refine bk ?_ ?_<;>intro _<;>try exact exo)|refine stq ?_|refine cp hf ?_|refine cp hk ?_|fail)
  all_goals(conv=>whnf)
  all_goals first
   | exact aC.int (bN om h4 asm).symm
   | (refine⟨18+1,⟨om,dZ h4 om⟩,om,?_⟩
      exact lq0)
 .
  have hf:=ce d 19 om;have hk:=hc 19 om;repeat' ((conv=>whnf);first|refine Idx.at (f:=D.str) (l:=ah) 19 rfl (kD rfl) ?_|exact kQ|(refine bk ?_ ?_<;>intro _<;>try exact exo)|refine stq ?_|refine cp hf ?_|refine cp hk ?_|fail)
  all_goals(conv=>whnf)
  all_goals first
   | exact aC.int (bN om h4 asm).symm
   | (refine⟨19+1,⟨om,dZ h4 om⟩,om,?_⟩
      exact lq0)
 .
  have hf:=ce d 20 om;have hk:=hc 20 om;repeat' ((conv=>whnf);first|refine Idx.at (f:=D.str) (l:=ah) 20 rfl (kD rfl) ?_|exact kQ|(refine bk ?_ ?_<;>intro _<;>try exact exo)|refine stq ?_|refine cp hf ?_|refine cp hk ?_|fail)
  all_goals(conv=>whnf)
  all_goals first
   | exact aC.int (bN om h4 asm).symm
   | (refine⟨20+1,⟨om,dZ h4 om⟩,om,?_⟩
      exact lq0)
 .repeat' ((conv=>whnf);first|exact kQ|(refine bk ?_ ?_<;>intro _<;>try exact exo)|refine stq ?_)
  all_goals(conv=>whnf)
  exact aC.int (lL.2 h4).symm
end
section
open Go Go.Am Classical
set_option maxRecDepth 100000
theorem xHJ.rbX {p:Prop}(h:p:=by first|exact Rb.cells (Rds.same (cS _)) rfl|fail):p:=h
open xHJ
section
variable [GT]
noncomputable def errs (d:Db) (em:Nat->Int):Nat->Int
 | 0=>if uP d.major/\uP d.minor then 0 else 1
 | 1=>if PrV d.cat then 0 else 11
 | 2=>if PrV d.wid then 0 else 11
 | 3=>if PrV d.scr then 0 else 11
 | 4=>if PrV d.gra then 0 else 11
 | 5=>if PrV d.wor then 0 else 11
 | 6=>if PrV d.sen then 0 else 11
 | 7=>if PrV d.lin then 0 else 11
 | 8=>if ClV d.classes then 0 else 11
 | 9=>em 9
 | 10=>if dA d.excl then 0 else 11
 | 11=>em 11
 | 12=>em 12
 | 13=>em 13
 | 14=>em 14
 | 15=>if dA d.cased then 0 else 11
 | 16=>if dA d.ignor then 0 else 11
 | 17=>if dA d.start then 0 else 11
 | 18=>if dA d.cont then 0 else 11
 | 19=>if dA d.medial then 0 else 11
 | _=>em 20
theorem ite0 {p:Prop} [Decidable p] {n:Int}(hn:n≠0):(if p then 0 else n)=0↔p:=by
 by_cases h:p<;>simp[h,hn]
theorem xx {d:Db}{em:Nat->Int}(hem:∀ k,em k=0↔MOk (gD d k)):∀ k,k<21->(errs d em k=0↔I4 d k):=by
 intro k hk;rcases(by omega:k=0\/k=1\/k=2\/k=3\/k=4\/k=5\/k=6\/k=7\/k=8\/k=9\/k=10\/k=11\/k=12\/k=13\/k=14\/k=15\/k=16\/k=17\/k=18\/k=19\/k=20) with rfl|rfl|rfl|rfl|rfl|rfl|rfl|rfl|rfl|rfl|rfl|rfl|rfl|rfl|rfl|rfl|rfl|rfl|rfl|rfl|rfl
 all_goals first
  | exact ite0 om
  | exact hem _
theorem SmD.maps {d:Db}(ho:d.ok) (hs:SmD d){k:Nat}(hk:k<21):GL (gD d k):=⟨by have:=(hs.2.2.2 k hk).2;omega,λi h=>((ho.maps k).2 i h).1,λi h=>((ho.maps k).2 i h).2⟩
theorem xJ {d:Db}{k:Nat}(hk:¬k<21):gD d k=gD d 20:=by
 unfold gD;split<;>first|omega|rfl
theorem lO {d:Db}(ho:d.ok) (hs:SmD d):∃ e:Int,Pu Tryz.prog 57 [dbD d] (i64 e)/\(e=0↔DbV d):=by
 have hm:∀ k,∃ e:Int,Pu Tryz.prog 315 [cQ (gD d k)] (i64 e)/\(e=0↔MOk (gD d k)):=λk=>by
  by_cases hk:k<21
  .exact xM (SmD.maps ho hs hk)
  .rw[xJ hk];exact xM (SmD.maps ho hs om)
 let em:Nat->Int:=λk=>Classical.choose (hm k)
 have h1:∀ k,Pu Tryz.prog 315 [cQ (gD d k)] (i64 (em k)):=λk=>(Classical.choose_spec (hm k)).1
 have h2:∀ k,em k=0↔MOk (gD d k):=λk=>(Classical.choose_spec (hm k)).2
 have hr:∀ n,aF ((dbC d).drop n)=true:=λn=>kS n (cS d)
 refine⟨gy ((List.range 21).map (errs d em)),Fl λk hk=>?_,?_⟩
 .rcases(by omega:k=0\/k=1\/k=2\/k=3\/k=4\/k=5\/k=6\/k=7\/k=8\/k=9\/k=10\/k=11\/k=12\/k=13\/k=14\/k=15\/k=16\/k=17\/k=18\/k=19\/k=20) with rfl|rfl|rfl|rfl|rfl|rfl|rfl|rfl|rfl|rfl|rfl|rfl|rfl|rfl|rfl|rfl|rfl|rfl|rfl|rfl|rfl
  .exact De (hr 2)
  .exact gX (p:=d.cat) (ho.prop 0) (hr 4)
  .exact gX (p:=d.wid) (ho.prop 1) (hr 6)
  .exact gX (p:=d.scr) (ho.prop 2) (hr 8)
  .exact gX (p:=d.gra) (ho.prop 3) (hr 10)
  .exact gX (p:=d.wor) (ho.prop 4) (hr 12)
  .exact gX (p:=d.sen) (ho.prop 5) (hr 14)
  .exact gX (p:=d.lin) (ho.prop 6) (hr 16)
  .exact Fx ho.classes (hr 17)
  .exact iv (l:=d.decomp) (h1 9) (hr 18)
  .exact iY (l:=d.excl) (hs.2.2.1 0 om) (hr 19)
  .exact iv (l:=d.lower) (h1 11) (hr 20)
  .exact iv (l:=d.upper) (h1 12) (hr 21)
  .exact iv (l:=d.title) (h1 13) (hr 22)
  .exact iv (l:=d.fold) (h1 14) (hr 23)
  .exact iY (l:=d.cased) (hs.2.2.1 1 om) (hr 24)
  .exact iY (l:=d.ignor) (hs.2.2.1 2 om) (hr 25)
  .exact iY (l:=d.start) (hs.2.2.1 3 om) (hr 26)
  .exact iY (l:=d.cont) (hs.2.2.1 4 om) (hr 27)
  .exact iY (l:=d.medial) (hs.2.2.1 5 om) (hr 28)
  .exact iv (l:=d.confu) (h1 20) (hr 29)
 .rw[lL];exact forall_congr' λk=>forall_congr' λhk=>xx h2 k hk
noncomputable def Gz (d:Db) (em:Nat->Int) (k:Nat):Int:=if k=0 then 0 else errs d em k
set_option maxHeartbeats 16000000 in
theorem Cn {d:Db}(ho:d.ok) (hs:SmD d){em:Nat->Int}(hem:∀ k,Pu Tryz.prog 68 [cQ (gD d k)] (i64 (em k))):∀ k:Nat,k<21->Pu Tryz.prog 46 [dbD d,i64 (k:Int)] (i64 (Gz d em k)):=by
 intro k hk;rcases(by omega:k=0\/k=1\/k=2\/k=3\/k=4\/k=5\/k=6\/k=7\/k=8\/k=9\/k=10\/k=11\/k=12\/k=13\/k=14\/k=15\/k=16\/k=17\/k=18\/k=19\/k=20) with rfl|rfl|rfl|rfl|rfl|rfl|rfl|rfl|rfl|rfl|rfl|rfl|rfl|rfl|rfl|rfl|rfl|rfl|rfl|rfl|rfl
 .
  refine pv Tryz.func46 ?_;repeat' ((conv=>whnf);first|refine Br.strF rfl ?_|refine Br.strT rfl ?_|refine Idx.at (f:=D.str) (l:=ah) 0 rfl (kD rfl) ?_|exact kQ|(refine bk ?_ ?_<;>intro _<;>try exact exo)|refine stq ?_|refine cp aw ?_|fail)
  all_goals(conv=>whnf)
  all_goals first
   | (refine aC.int (Eq.symm ?_);show(if True then(0:Int) else 11)=0;exact if_pos asm)
   | (refine aC.int (Eq.symm ?_);show(if True then(0:Int) else 11)=11;exact if_neg asm)
   | exact aC.int rfl
 .
  have h1:Pu Tryz.prog 47 [dbD d,i64 ((1:Nat)-1:Int)] (bV (prop d 0)):=iE d 0 om;have h2:=eH (ho.prop 0);refine pv Tryz.func46 ?_;repeat' ((conv=>whnf);first|refine Br.strF rfl ?_|refine Br.strT rfl ?_|refine Idx.at (f:=D.str) (l:=ah) 1 rfl (kD rfl) ?_|exact kQ|(refine bk ?_ ?_<;>intro _<;>try exact exo)|refine stq ?_|refine cp aw ?_|refine cp h1 ?_|refine cd h2 (λ_=>?_) (λ_=>?_)|fail)
  all_goals(conv=>whnf)
  all_goals first
   | (refine aC.int (Eq.symm ?_);show(if PrV d.cat then(0:Int) else 11)=0;exact if_pos asm)
   | (refine aC.int (Eq.symm ?_);show(if PrV d.cat then(0:Int) else 11)=11;exact if_neg asm)
   | exact aC.int rfl
 .
  have h1:Pu Tryz.prog 47 [dbD d,i64 ((2:Nat)-1:Int)] (bV (prop d 1)):=iE d 1 om;have h2:=eH (ho.prop 1);refine pv Tryz.func46 ?_;repeat' ((conv=>whnf);first|refine Br.strF rfl ?_|refine Br.strT rfl ?_|refine Idx.at (f:=D.str) (l:=ah) 2 rfl (kD rfl) ?_|exact kQ|(refine bk ?_ ?_<;>intro _<;>try exact exo)|refine stq ?_|refine cp aw ?_|refine cp h1 ?_|refine cd h2 (λ_=>?_) (λ_=>?_)|fail)
  all_goals(conv=>whnf)
  all_goals first
   | (refine aC.int (Eq.symm ?_);show(if PrV d.wid then(0:Int) else 11)=0;exact if_pos asm)
   | (refine aC.int (Eq.symm ?_);show(if PrV d.wid then(0:Int) else 11)=11;exact if_neg asm)
   | exact aC.int rfl
 .
  have h1:Pu Tryz.prog 47 [dbD d,i64 ((3:Nat)-1:Int)] (bV (prop d 2)):=iE d 2 om;have h2:=eH (ho.prop 2);refine pv Tryz.func46 ?_;repeat' ((conv=>whnf);first|refine Br.strF rfl ?_|refine Br.strT rfl ?_|refine Idx.at (f:=D.str) (l:=ah) 3 rfl (kD rfl) ?_|exact kQ|(refine bk ?_ ?_<;>intro _<;>try exact exo)|refine stq ?_|refine cp aw ?_|refine cp h1 ?_|refine cd h2 (λ_=>?_) (λ_=>?_)|fail)
  all_goals(conv=>whnf)
  all_goals first
   | (refine aC.int (Eq.symm ?_);show(if PrV d.scr then(0:Int) else 11)=0;exact if_pos asm)
   | (refine aC.int (Eq.symm ?_);show(if PrV d.scr then(0:Int) else 11)=11;exact if_neg asm)
   | exact aC.int rfl
 .
  have h1:Pu Tryz.prog 47 [dbD d,i64 ((4:Nat)-1:Int)] (bV (prop d 3)):=iE d 3 om;have h2:=eH (ho.prop 3);refine pv Tryz.func46 ?_;repeat' ((conv=>whnf);first|refine Br.strF rfl ?_|refine Br.strT rfl ?_|refine Idx.at (f:=D.str) (l:=ah) 4 rfl (kD rfl) ?_|exact kQ|(refine bk ?_ ?_<;>intro _<;>try exact exo)|refine stq ?_|refine cp aw ?_|refine cp h1 ?_|refine cd h2 (λ_=>?_) (λ_=>?_)|fail)
  all_goals(conv=>whnf)
  all_goals first
   | (refine aC.int (Eq.symm ?_);show(if PrV d.gra then(0:Int) else 11)=0;exact if_pos asm)
   | (refine aC.int (Eq.symm ?_);show(if PrV d.gra then(0:Int) else 11)=11;exact if_neg asm)
   | exact aC.int rfl
 .
  have h1:Pu Tryz.prog 47 [dbD d,i64 ((5:Nat)-1:Int)] (bV (prop d 4)):=iE d 4 om;have h2:=eH (ho.prop 4);refine pv Tryz.func46 ?_;repeat' ((conv=>whnf);first|refine Br.strF rfl ?_|refine Br.strT rfl ?_|refine Idx.at (f:=D.str) (l:=ah) 5 rfl (kD rfl) ?_|exact kQ|(refine bk ?_ ?_<;>intro _<;>try exact exo)|refine stq ?_|refine cp aw ?_|refine cp h1 ?_|refine cd h2 (λ_=>?_) (λ_=>?_)|fail)
  all_goals(conv=>whnf)
  all_goals first
   | (refine aC.int (Eq.symm ?_);show(if PrV d.wor then(0:Int) else 11)=0;exact if_pos asm)
   | (refine aC.int (Eq.symm ?_);show(if PrV d.wor then(0:Int) else 11)=11;exact if_neg asm)
   | exact aC.int rfl
 .
  have h1:Pu Tryz.prog 47 [dbD d,i64 ((6:Nat)-1:Int)] (bV (prop d 5)):=iE d 5 om;have h2:=eH (ho.prop 5);refine pv Tryz.func46 ?_;repeat' ((conv=>whnf);first|refine Br.strF rfl ?_|refine Br.strT rfl ?_|refine Idx.at (f:=D.str) (l:=ah) 6 rfl (kD rfl) ?_|exact kQ|(refine bk ?_ ?_<;>intro _<;>try exact exo)|refine stq ?_|refine cp aw ?_|refine cp h1 ?_|refine cd h2 (λ_=>?_) (λ_=>?_)|fail)
  all_goals(conv=>whnf)
  all_goals first
   | (refine aC.int (Eq.symm ?_);show(if PrV d.sen then(0:Int) else 11)=0;exact if_pos asm)
   | (refine aC.int (Eq.symm ?_);show(if PrV d.sen then(0:Int) else 11)=11;exact if_neg asm)
   | exact aC.int rfl
 .
  have h1:Pu Tryz.prog 47 [dbD d,i64 ((7:Nat)-1:Int)] (bV (prop d 6)):=iE d 6 om;have h2:=eH (ho.prop 6);refine pv Tryz.func46 ?_;repeat' ((conv=>whnf);first|refine Br.strF rfl ?_|refine Br.strT rfl ?_|refine Idx.at (f:=D.str) (l:=ah) 7 rfl (kD rfl) ?_|exact kQ|(refine bk ?_ ?_<;>intro _<;>try exact exo)|refine stq ?_|refine cp aw ?_|refine cp h1 ?_|refine cd h2 (λ_=>?_) (λ_=>?_)|fail)
  all_goals(conv=>whnf)
  all_goals first
   | (refine aC.int (Eq.symm ?_);show(if PrV d.lin then(0:Int) else 11)=0;exact if_pos asm)
   | (refine aC.int (Eq.symm ?_);show(if PrV d.lin then(0:Int) else 11)=11;exact if_neg asm)
   | exact aC.int rfl
 .
  have h2:=rcls_c (l:=d.classes) ho.classes;refine pv Tryz.func46 ?_;repeat' ((conv=>whnf);first|refine Br.strF rfl ?_|refine Br.strT rfl ?_|refine Idx.at (f:=D.str) (l:=ah) 8 rfl (kD rfl) ?_|exact kQ|(refine bk ?_ ?_<;>intro _<;>try exact exo)|refine stq ?_|refine cp aw ?_|refine cd h2 (λ_=>?_) (λ_=>?_)|fail)
  all_goals(conv=>whnf)
  all_goals first
   | (refine aC.int (Eq.symm ?_);show(if ClV d.classes then(0:Int) else 11)=0;exact if_pos asm)
   | (refine aC.int (Eq.symm ?_);show(if ClV d.classes then(0:Int) else 11)=11;exact if_neg asm)
   | exact aC.int rfl
 .
  have h0:Pu Tryz.prog 66 [.str (iJ 9)] (i64 (-1)):=dv 9 om;have h1:=lw d 9 om;have h2:=hem 9;refine pv Tryz.func46 ?_;repeat' ((conv=>whnf);first|refine Br.strF rfl ?_|refine Br.strT rfl ?_|refine Idx.at (f:=D.str) (l:=ah) 9 rfl (kD rfl) ?_|exact kQ|(refine bk ?_ ?_<;>intro _<;>try exact exo)|refine stq ?_|refine cp aw ?_|refine cp h0 ?_|refine cp h1 ?_|refine cp h2 ?_|fail)
  all_goals(conv=>whnf)
  all_goals first
   | (refine aC.int (Eq.symm ?_);show(if True then(0:Int) else 11)=0;exact if_pos asm)
   | (refine aC.int (Eq.symm ?_);show(if True then(0:Int) else 11)=11;exact if_neg asm)
   | exact aC.int rfl
 .
  have h0:Pu Tryz.prog 66 [.str (iJ 10)] (i64 (0)):=dv 10 om;have h1:=lv d 0 om;have h2:=eG (rs:=d.excl) (hs.2.2.1 0 om);refine pv Tryz.func46 ?_;repeat' ((conv=>whnf);first|refine Br.strF rfl ?_|refine Br.strT rfl ?_|refine Idx.at (f:=D.str) (l:=ah) 10 rfl (kD rfl) ?_|exact kQ|(refine bk ?_ ?_<;>intro _<;>try exact exo)|refine stq ?_|refine cp aw ?_|refine cp h0 ?_|refine cp h1 ?_|refine cd h2 (λ_=>?_) (λ_=>?_)|fail)
  all_goals(conv=>whnf)
  all_goals first
   | (refine aC.int (Eq.symm ?_);show(if dA d.excl then(0:Int) else 11)=0;exact if_pos asm)
   | (refine aC.int (Eq.symm ?_);show(if dA d.excl then(0:Int) else 11)=11;exact if_neg asm)
   | exact aC.int rfl
 .
  have h0:Pu Tryz.prog 66 [.str (iJ 11)] (i64 (-1)):=dv 11 om;have h1:=lw d 11 om;have h2:=hem 11;refine pv Tryz.func46 ?_;repeat' ((conv=>whnf);first|refine Br.strF rfl ?_|refine Br.strT rfl ?_|refine Idx.at (f:=D.str) (l:=ah) 11 rfl (kD rfl) ?_|exact kQ|(refine bk ?_ ?_<;>intro _<;>try exact exo)|refine stq ?_|refine cp aw ?_|refine cp h0 ?_|refine cp h1 ?_|refine cp h2 ?_|fail)
  all_goals(conv=>whnf)
  all_goals first
   | (refine aC.int (Eq.symm ?_);show(if True then(0:Int) else 11)=0;exact if_pos asm)
   | (refine aC.int (Eq.symm ?_);show(if True then(0:Int) else 11)=11;exact if_neg asm)
   | exact aC.int rfl
 .
  have h0:Pu Tryz.prog 66 [.str (iJ 12)] (i64 (-1)):=dv 12 om;have h1:=lw d 12 om;have h2:=hem 12;refine pv Tryz.func46 ?_;repeat' ((conv=>whnf);first|refine Br.strF rfl ?_|refine Br.strT rfl ?_|refine Idx.at (f:=D.str) (l:=ah) 12 rfl (kD rfl) ?_|exact kQ|(refine bk ?_ ?_<;>intro _<;>try exact exo)|refine stq ?_|refine cp aw ?_|refine cp h0 ?_|refine cp h1 ?_|refine cp h2 ?_|fail)
  all_goals(conv=>whnf)
  all_goals first
   | (refine aC.int (Eq.symm ?_);show(if True then(0:Int) else 11)=0;exact if_pos asm)
   | (refine aC.int (Eq.symm ?_);show(if True then(0:Int) else 11)=11;exact if_neg asm)
   | exact aC.int rfl
 .
  have h0:Pu Tryz.prog 66 [.str (iJ 13)] (i64 (-1)):=dv 13 om;have h1:=lw d 13 om;have h2:=hem 13;refine pv Tryz.func46 ?_;repeat' ((conv=>whnf);first|refine Br.strF rfl ?_|refine Br.strT rfl ?_|refine Idx.at (f:=D.str) (l:=ah) 13 rfl (kD rfl) ?_|exact kQ|(refine bk ?_ ?_<;>intro _<;>try exact exo)|refine stq ?_|refine cp aw ?_|refine cp h0 ?_|refine cp h1 ?_|refine cp h2 ?_|fail)
  all_goals(conv=>whnf)
  all_goals first
   | (refine aC.int (Eq.symm ?_);show(if True then(0:Int) else 11)=0;exact if_pos asm)
   | (refine aC.int (Eq.symm ?_);show(if True then(0:Int) else 11)=11;exact if_neg asm)
   | exact aC.int rfl
 .
  have h0:Pu Tryz.prog 66 [.str (iJ 14)] (i64 (-1)):=dv 14 om;have h1:=lw d 14 om;have h2:=hem 14;refine pv Tryz.func46 ?_;repeat' ((conv=>whnf);first|refine Br.strF rfl ?_|refine Br.strT rfl ?_|refine Idx.at (f:=D.str) (l:=ah) 14 rfl (kD rfl) ?_|exact kQ|(refine bk ?_ ?_<;>intro _<;>try exact exo)|refine stq ?_|refine cp aw ?_|refine cp h0 ?_|refine cp h1 ?_|refine cp h2 ?_|fail)
  all_goals(conv=>whnf)
  all_goals first
   | (refine aC.int (Eq.symm ?_);show(if True then(0:Int) else 11)=0;exact if_pos asm)
   | (refine aC.int (Eq.symm ?_);show(if True then(0:Int) else 11)=11;exact if_neg asm)
   | exact aC.int rfl
 .
  have h0:Pu Tryz.prog 66 [.str (iJ 15)] (i64 (1)):=dv 15 om;have h1:=lv d 1 om;have h2:=eG (rs:=d.cased) (hs.2.2.1 1 om);refine pv Tryz.func46 ?_;repeat' ((conv=>whnf);first|refine Br.strF rfl ?_|refine Br.strT rfl ?_|refine Idx.at (f:=D.str) (l:=ah) 15 rfl (kD rfl) ?_|exact kQ|(refine bk ?_ ?_<;>intro _<;>try exact exo)|refine stq ?_|refine cp aw ?_|refine cp h0 ?_|refine cp h1 ?_|refine cd h2 (λ_=>?_) (λ_=>?_)|fail)
  all_goals(conv=>whnf)
  all_goals first
   | (refine aC.int (Eq.symm ?_);show(if dA d.cased then(0:Int) else 11)=0;exact if_pos asm)
   | (refine aC.int (Eq.symm ?_);show(if dA d.cased then(0:Int) else 11)=11;exact if_neg asm)
   | exact aC.int rfl
 .
  have h0:Pu Tryz.prog 66 [.str (iJ 16)] (i64 (2)):=dv 16 om;have h1:=lv d 2 om;have h2:=eG (rs:=d.ignor) (hs.2.2.1 2 om);refine pv Tryz.func46 ?_;repeat' ((conv=>whnf);first|refine Br.strF rfl ?_|refine Br.strT rfl ?_|refine Idx.at (f:=D.str) (l:=ah) 16 rfl (kD rfl) ?_|exact kQ|(refine bk ?_ ?_<;>intro _<;>try exact exo)|refine stq ?_|refine cp aw ?_|refine cp h0 ?_|refine cp h1 ?_|refine cd h2 (λ_=>?_) (λ_=>?_)|fail)
  all_goals(conv=>whnf)
  all_goals first
   | (refine aC.int (Eq.symm ?_);show(if dA d.ignor then(0:Int) else 11)=0;exact if_pos asm)
   | (refine aC.int (Eq.symm ?_);show(if dA d.ignor then(0:Int) else 11)=11;exact if_neg asm)
   | exact aC.int rfl
 .
  have h0:Pu Tryz.prog 66 [.str (iJ 17)] (i64 (3)):=dv 17 om;have h1:=lv d 3 om;have h2:=eG (rs:=d.start) (hs.2.2.1 3 om);refine pv Tryz.func46 ?_;repeat' ((conv=>whnf);first|refine Br.strF rfl ?_|refine Br.strT rfl ?_|refine Idx.at (f:=D.str) (l:=ah) 17 rfl (kD rfl) ?_|exact kQ|(refine bk ?_ ?_<;>intro _<;>try exact exo)|refine stq ?_|refine cp aw ?_|refine cp h0 ?_|refine cp h1 ?_|refine cd h2 (λ_=>?_) (λ_=>?_)|fail)
  all_goals(conv=>whnf)
  all_goals first
   | (refine aC.int (Eq.symm ?_);show(if dA d.start then(0:Int) else 11)=0;exact if_pos asm)
   | (refine aC.int (Eq.symm ?_);show(if dA d.start then(0:Int) else 11)=11;exact if_neg asm)
   | exact aC.int rfl
 .
  have h0:Pu Tryz.prog 66 [.str (iJ 18)] (i64 (4)):=dv 18 om;have h1:=lv d 4 om;have h2:=eG (rs:=d.cont) (hs.2.2.1 4 om);refine pv Tryz.func46 ?_;repeat' ((conv=>whnf);first|refine Br.strF rfl ?_|refine Br.strT rfl ?_|refine Idx.at (f:=D.str) (l:=ah) 18 rfl (kD rfl) ?_|exact kQ|(refine bk ?_ ?_<;>intro _<;>try exact exo)|refine stq ?_|refine cp aw ?_|refine cp h0 ?_|refine cp h1 ?_|refine cd h2 (λ_=>?_) (λ_=>?_)|fail)
  all_goals(conv=>whnf)
  all_goals first
   | (refine aC.int (Eq.symm ?_);show(if dA d.cont then(0:Int) else 11)=0;exact if_pos asm)
   | (refine aC.int (Eq.symm ?_);show(if dA d.cont then(0:Int) else 11)=11;exact if_neg asm)
   | exact aC.int rfl
 .
  have h0:Pu Tryz.prog 66 [.str (iJ 19)] (i64 (5)):=dv 19 om;have h1:=lv d 5 om;have h2:=eG (rs:=d.medial) (hs.2.2.1 5 om);refine pv Tryz.func46 ?_;repeat' ((conv=>whnf);first|refine Br.strF rfl ?_|refine Br.strT rfl ?_|refine Idx.at (f:=D.str) (l:=ah) 19 rfl (kD rfl) ?_|exact kQ|(refine bk ?_ ?_<;>intro _<;>try exact exo)|refine stq ?_|refine cp aw ?_|refine cp h0 ?_|refine cp h1 ?_|refine cd h2 (λ_=>?_) (λ_=>?_)|fail)
  all_goals(conv=>whnf)
  all_goals first
   | (refine aC.int (Eq.symm ?_);show(if dA d.medial then(0:Int) else 11)=0;exact if_pos asm)
   | (refine aC.int (Eq.symm ?_);show(if dA d.medial then(0:Int) else 11)=11;exact if_neg asm)
   | exact aC.int rfl
 .
  have h0:Pu Tryz.prog 66 [.str (iJ 20)] (i64 (-1)):=dv 20 om;have h1:=lw d 20 om;have h2:=hem 20;refine pv Tryz.func46 ?_;repeat' ((conv=>whnf);first|refine Br.strF rfl ?_|refine Br.strT rfl ?_|refine Idx.at (f:=D.str) (l:=ah) 20 rfl (kD rfl) ?_|exact kQ|(refine bk ?_ ?_<;>intro _<;>try exact exo)|refine stq ?_|refine cp aw ?_|refine cp h0 ?_|refine cp h1 ?_|refine cp h2 ?_|fail)
  all_goals(conv=>whnf)
  all_goals first
   | (refine aC.int (Eq.symm ?_);show(if True then(0:Int) else 11)=0;exact if_pos asm)
   | (refine aC.int (Eq.symm ?_);show(if True then(0:Int) else 11)=11;exact if_neg asm)
   | exact aC.int rfl
theorem d6 {d:Db}(ho:d.ok) (hs:SmD d):∃ e:Int,Pu Tryz.prog 23 [dbD d] (i64 e)/\(e=0↔DbV d):=by
 have hm:∀ k,∃ e:Int,Pu Tryz.prog 68 [cQ (gD d k)] (i64 e)/\(e=0↔MOk (gD d k)):=λk=>by
  by_cases hk:k<21
  .exact sw (SmD.maps ho hs hk)
  .rw[xJ hk];exact sw (SmD.maps ho hs om)
 let em:Nat->Int:=λk=>Classical.choose (hm k)
 have h1:∀ k,Pu Tryz.prog 68 [cQ (gD d k)] (i64 (em k)):=λk=>(Classical.choose_spec (hm k)).1
 have h2:∀ k,em k=0↔MOk (gD d k):=λk=>(Classical.choose_spec (hm k)).2
 by_cases hv:uP d.major/\uP d.minor
 .refine⟨gy ((List.range 21).map (Gz d em)),?_,?_⟩
  .refine pv Tryz.func23 ?_;repeat' ((conv=>whnf);first|exact kQ|(refine bk ?_ ?_<;>intro _<;>try exact exo)|refine stq ?_|refine cd Af (λ_=>?_) (λ_=>?_)|fail)
   all_goals(conv=>whnf)
   all_goals first
    | (exfalso;rename_i h;exact h hv.1)
    | (exfalso;rename_i h;exact h hv.2)
    | skip
   refine aG.by aB T0 (λk:Nat=>⟨tmp 29 [(1,.ptr 0 0),(3,i64 (k:Int))],⟨1,[(0,.cells (dbC d) true)]⟩⟩)
    (λk=>k<=21/\∀ i,i<k->Gz d em i=0) (λk=>21-k) 0 ⟨om,λ_ h=>om⟩ ?_ ?_
   .exact lq [(0,_)] []
   intro k ⟨h3,h4⟩;have hfl:ah.length=21:=rfl;by_cases hk:k<21
   .have hf:=Cn ho hs h1 k hk;repeat' ((conv=>whnf);first|exact kQ|(refine bk ?_ ?_<;>intro _<;>try exact exo)|refine stq ?_|refine cp aw ?_|refine cp hf ?_|fail)
    all_goals(conv=>whnf)
    all_goals first
     | exact aC.int (bN hk h4 asm).symm
     | (refine⟨k+1,⟨om,dZ h4 om⟩,om,?_⟩
        exact lq [(0,_)] [])
   .repeat' ((conv=>whnf);first|exact kQ|(refine bk ?_ ?_<;>intro _<;>try exact exo)|refine stq ?_|refine cp aw ?_|fail)
    all_goals(conv=>whnf)
    exact aC.int (lL.2 λi hi=>h4 i om).symm
  .rw[lL];refine forall_congr' λk=>forall_congr' λhk=>?_
   by_cases hk0:k=0
   .subst hk0;exact⟨λ_=>hv,λ_=>rfl⟩
   .rw[Gz,if_neg hk0];exact xx h2 k hk
 .refine⟨1,?_,λh=>om,λh=>absurd (h 0 om) hv⟩;refine pv Tryz.func23 ?_;repeat' ((conv=>whnf);first|exact kQ|(refine bk ?_ ?_<;>intro _<;>try exact exo)|refine stq ?_|refine cd Af (λ_=>?_) (λ_=>?_)|fail)
  all_goals(conv=>whnf)
  all_goals first
   | exact aC.same rfl rfl
   | (exfalso;rename_i h1 h2;exact hv ⟨h1,h2⟩)
end
end
section
open Go Go.Am Classical
set_option maxRecDepth 100000
variable [GT]
theorem wp {α:Type}{f:α->D}(h:∀ x,one (f x)=true):∀ l:List α,ee (l.map f)=true
 | []=>rfl
 | x::l=>by simp[ee,h,wp h l]
theorem wq:∀ a b:List D,ee (a++b)=(ee a&&ee b)
 | [],b=>by simp[ee]
 | d::a,b=>by simp[ee,wq a b,Bool.and_assoc]
theorem tF {α:Type}{c:α->List D}(h:∀ x,ee (c x)=true):∀ l:List α,ee (l.flatMap c)=true
 | []=>rfl
 | x::l=>by simp[wq,h,tF h l]
theorem eD.lstS {α:Type}{c:α->List D}{sz:Nat}(hc:∀ x,(c x).length=sz){h:aA}{l:List α}{K:Nat->List D->Prop}(go:K l.length (l.flatMap c)):eD h sz (.imm l.length (l.flatMap c)) K:=⟨_,_,by simp[cL,aZ hc],go⟩
theorem Rd.frzT {h:aA}{fz:Nat->Bool}{σ:Nat->Option Nat}{l:List Str}{id n cap es:Nat}{ex:Bool}{cs:List D}{bx:Bool}(hf:fz id=true) (hg:h.get id=some (.cells cs bx)) (hn:n=l.length) (he:es=1) (hc:cs=l.map D.str):Rd h fz σ (.sl id 0 n cap es ex) (strs l):=by
 rw[show strs l=lstS (λs=>[D.str s]) l from(qo l).symm];exact Rd.frzL (c:=λs:Str=>[D.str s]) (sz:=1) (λ_=>rfl) (λ_=>rfl) hf hg hn he (by rw[hc,aN])
theorem Fy {l:List Str}(hl:l.length<=1000):Pu Tryz.prog 78 [strs l] (strs l):=by
 cases l with
 | nil=>
  refine Pu.empty ?_ ?_
  .refine pv Tryz.func78 ?_;repeat' ((conv=>whnf);first|exact kQ|(refine bk ?_ ?_<;>intro _<;>try exact exo)|refine stq ?_)
   all_goals(conv=>whnf)
   exact⟨.nil⟩
  .refine pv Tryz.func78 ?_;repeat' ((conv=>whnf);first|exact kQ|(refine bk ?_ ?_<;>intro _<;>try exact exo)|refine stq ?_)
   all_goals(conv=>whnf)
   exact⟨Rd.frz rfl rfl (kD rfl) (Rds.eqs rfl rfl)⟩
 | cons x xs=>
  have hx2:(x::xs).length=xs.length+1:=rfl;refine pv Tryz.func78 ?_;repeat' ((conv=>whnf);first|exact kQ|(refine bk ?_ ?_<;>intro _<;>try exact exo)|refine stq ?_|refine eD.lst ?_|refine Chk.mk (wp (λ_=>rfl) _) ?_|refine Chk.growX 16 1 rfl rfl om om si ?_)
  all_goals(conv=>whnf)
  exact⟨Rd.frzT rfl rfl si rfl si⟩
theorem Dz (s:Spn):(D0 s).length=3:=rfl
theorem Fz {l:List Spn}(hl:l.length<=1000):Pu Tryz.prog 79 [cf l] (cf l):=by
 cases l with
 | nil=>
  refine Pu.empty ?_ ?_
  .refine pv Tryz.func79 ?_;repeat' ((conv=>whnf);first|exact kQ|(refine bk ?_ ?_<;>intro _<;>try exact exo)|refine stq ?_)
   all_goals(conv=>whnf)
   exact⟨.nil⟩
  .refine pv Tryz.func79 ?_;repeat' ((conv=>whnf);first|exact kQ|(refine bk ?_ ?_<;>intro _<;>try exact exo)|refine stq ?_)
   all_goals(conv=>whnf)
   exact⟨Rd.frz rfl rfl (kD rfl) (Rds.eqs rfl rfl)⟩
 | cons x xs=>
  have hx2:(x::xs).length=xs.length+1:=rfl;refine pv Tryz.func79 ?_;repeat' ((conv=>whnf);first|exact kQ|(refine bk ?_ ?_<;>intro _<;>try exact exo)|refine stq ?_|refine eD.lstS (c:=D0) (sz:=3) (l:=x::xs) (λ_=>rfl) ?_|refine Chk.mk (tF (λ_=>rfl) _) ?_|refine Chk.growX 24 3 rfl rfl om om si ?_)
  all_goals(conv=>whnf)
  exact⟨Rd.frzL Dz (λ_=>rfl) rfl rfl si rfl si⟩
set_option maxHeartbeats 8000000 in
theorem pZ {d:Db}(hs:∀ k,k<7->(prop d k).names.length<=30/\(prop d k).spans.length<=16):∀ k:Nat,k<7->Pu Tryz.prog 58 [dbD d,i64 (k:Int)] (bV (prop d k)):=by
 intro k hk;have hn:=io (prop d k);have h1:=hs k hk;have c1:=Fy (l:=(prop d k).names) om;have c2:=Fz (l:=(prop d k).spans) om;rcases(by omega:k=0\/k=1\/k=2\/k=3\/k=4\/k=5\/k=6) with rfl|rfl|rfl|rfl|rfl|rfl|rfl
 all_goals
  refine pv Tryz.func58 ?_;repeat' ((conv=>whnf);first|exact kQ|(refine bk ?_ ?_<;>intro _<;>try exact exo)|refine stq ?_|refine cp c1 ?_|refine cp c2 ?_|(apply Cll.inl aB T0 Tryz.func77 rfl rfl ?_;rotate_left)|exact⟨Or.inr rfl,rfl,rfl⟩|refine ac.by (id:=4) aB T0 [0,1,3,7,15,0,32,96,224,511,1023,2047] (by kernel_rfl) ?_|refine Chk.mk ⟨_,rfl⟩ ?_|fail)
  all_goals(conv=>whnf)
  exact⟨Rd.eqd rfl hn⟩
end
end Go.Proofs.YtpgcjpcenaefpaaGreatDoor
