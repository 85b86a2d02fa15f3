/-
  Contracts of functions over data: databases checked by the program.
-/
import Derived.Test.YtlimkdlhldlolaaGreatDoorHE
set_option linter.unusedSectionVars false
namespace Go.Proofs.YtlimkdlhldlolaaGreatDoor
set_option maxHeartbeats 16000000
set_option maxRecDepth 100000
section
open Go Go.Am Classical
theorem xHI.rdX {p:Prop}(h:p:=by first|exact Rd.frzp rfl rfl (Rds.eqs rfl (cV _))|exact Rd.int rfl|exact Rd.same (cV _)|fail):p:=h
open xHI
variable [GT]
theorem bP {a:Nat->Int}{n k:Nat}(hk:k<n) (h:∀ i,i<k->a i=0) (h0:a k≠0):gx ((List.range n).map a)=a k:=by
 have:=vV (l:=(List.range n).map a) (k:=k) (by simpa using hk) (λi hi hik=>by simpa using h i hik) (by simpa using h0)
 simpa using this
theorem lR {a:Nat->Int}{n:Nat}:gx ((List.range n).map a)=0↔∀ i,i<n->a i=0:=by
 rw[lQ];constructor
 .intro h i hi;have:=h i (by simpa using hi)
  simpa using this
 .intro h i hi
  have:i<n:=by simpa using hi
  simpa using h i this
theorem db {a:Nat->Int}{k:Nat}(h:∀ i,i<k->a i=0) (h0:a k=0):∀ i,i<k+1->a i=0:=λi hi=>by
 rcases(by omega:i<k\/i=k) with h1|rfl
 .exact h i h1
 .exact h0
theorem F8 {d:Db}{a:Nat->Int}(hc:∀ k,k<21->Pu Tryz.prog (fchk k) [.agg [.iptr ((dbC d).drop (foff k))]] (i64 (a k))):Pu Tryz.prog 51 [dbD d] (i64 (gx ((List.range 21).map a))):=by
 refine pv Tryz.func51 ?_;repeat' ((conv=>whnf);first|exact kQ|(refine bk ?_ ?_<;>intro _<;>try exact exo)|refine stq ?_|refine cp Id ?_|fail)
 refine aG.by aB T0 (λk:Nat=>⟨tmp 19 [(1,.iptr (dbC d)),(6,strs am),(7,i64 21),(8,i64 (k:Int))],⟨0,[]⟩⟩)
  (λk=>k<=21/\∀ i,i<k->a i=0) (λk=>21-k) 0 ⟨om,λ_ h=>om⟩ ?_ ?_
 .exact lq [] [0]
 intro k ⟨h3,h4⟩;rcases(by omega:k=0\/k=1\/k=2\/k=3\/k=4\/k=5\/k=6\/k=7\/k=8\/k=9\/k=10\/k=11\/k=12\/k=13\/k=14\/k=15\/k=16\/k=17\/k=18\/k=19\/k=20\/k=21) with rfl|rfl|rfl|rfl|rfl|rfl|rfl|rfl|rfl|rfl|rfl|rfl|rfl|rfl|rfl|rfl|rfl|rfl|rfl|rfl|rfl|rfl
 .
  have hf:=cf d 0 om;have hk:=hc 0 om;repeat' ((conv=>whnf);first|refine Idx.at (f:=D.str) (l:=am) 0 rfl (kD rfl) ?_|exact kQ|(refine bk ?_ ?_<;>intro _<;>try exact exo)|refine stq ?_|refine cp hf ?_|refine cp hk ?_|fail)
  all_goals(conv=>whnf)
  all_goals first
   | exact aD.int (bP om h4 asm).symm
   | (refine⟨0+1,⟨om,db h4 om⟩,om,?_⟩
      exact lq0)
 .
  have hf:=cf d 1 om;have hk:=hc 1 om;repeat' ((conv=>whnf);first|refine Idx.at (f:=D.str) (l:=am) 1 rfl (kD rfl) ?_|exact kQ|(refine bk ?_ ?_<;>intro _<;>try exact exo)|refine stq ?_|refine cp hf ?_|refine cp hk ?_|fail)
  all_goals(conv=>whnf)
  all_goals first
   | exact aD.int (bP om h4 asm).symm
   | (refine⟨1+1,⟨om,db h4 om⟩,om,?_⟩
      exact lq0)
 .
  have hf:=cf d 2 om;have hk:=hc 2 om;repeat' ((conv=>whnf);first|refine Idx.at (f:=D.str) (l:=am) 2 rfl (kD rfl) ?_|exact kQ|(refine bk ?_ ?_<;>intro _<;>try exact exo)|refine stq ?_|refine cp hf ?_|refine cp hk ?_|fail)
  all_goals(conv=>whnf)
  all_goals first
   | exact aD.int (bP om h4 asm).symm
   | (refine⟨2+1,⟨om,db h4 om⟩,om,?_⟩
      exact lq0)
 .
  have hf:=cf d 3 om;have hk:=hc 3 om;repeat' ((conv=>whnf);first|refine Idx.at (f:=D.str) (l:=am) 3 rfl (kD rfl) ?_|exact kQ|(refine bk ?_ ?_<;>intro _<;>try exact exo)|refine stq ?_|refine cp hf ?_|refine cp hk ?_|fail)
  all_goals(conv=>whnf)
  all_goals first
   | exact aD.int (bP om h4 asm).symm
   | (refine⟨3+1,⟨om,db h4 om⟩,om,?_⟩
      exact lq0)
 .
  have hf:=cf d 4 om;have hk:=hc 4 om;repeat' ((conv=>whnf);first|refine Idx.at (f:=D.str) (l:=am) 4 rfl (kD rfl) ?_|exact kQ|(refine bk ?_ ?_<;>intro _<;>try exact exo)|refine stq ?_|refine cp hf ?_|refine cp hk ?_|fail)
  all_goals(conv=>whnf)
  all_goals first
   | exact aD.int (bP om h4 asm).symm
   | (refine⟨4+1,⟨om,db h4 om⟩,om,?_⟩
      exact lq0)
 .
  have hf:=cf d 5 om;have hk:=hc 5 om;repeat' ((conv=>whnf);first|refine Idx.at (f:=D.str) (l:=am) 5 rfl (kD rfl) ?_|exact kQ|(refine bk ?_ ?_<;>intro _<;>try exact exo)|refine stq ?_|refine cp hf ?_|refine cp hk ?_|fail)
  all_goals(conv=>whnf)
  all_goals first
   | exact aD.int (bP om h4 asm).symm
   | (refine⟨5+1,⟨om,db h4 om⟩,om,?_⟩
      exact lq0)
 .
  have hf:=cf d 6 om;have hk:=hc 6 om;repeat' ((conv=>whnf);first|refine Idx.at (f:=D.str) (l:=am) 6 rfl (kD rfl) ?_|exact kQ|(refine bk ?_ ?_<;>intro _<;>try exact exo)|refine stq ?_|refine cp hf ?_|refine cp hk ?_|fail)
  all_goals(conv=>whnf)
  all_goals first
   | exact aD.int (bP om h4 asm).symm
   | (refine⟨6+1,⟨om,db h4 om⟩,om,?_⟩
      exact lq0)
 .
  have hf:=cf d 7 om;have hk:=hc 7 om;repeat' ((conv=>whnf);first|refine Idx.at (f:=D.str) (l:=am) 7 rfl (kD rfl) ?_|exact kQ|(refine bk ?_ ?_<;>intro _<;>try exact exo)|refine stq ?_|refine cp hf ?_|refine cp hk ?_|fail)
  all_goals(conv=>whnf)
  all_goals first
   | exact aD.int (bP om h4 asm).symm
   | (refine⟨7+1,⟨om,db h4 om⟩,om,?_⟩
      exact lq0)
 .
  have hf:=cf d 8 om;have hk:=hc 8 om;repeat' ((conv=>whnf);first|refine Idx.at (f:=D.str) (l:=am) 8 rfl (kD rfl) ?_|exact kQ|(refine bk ?_ ?_<;>intro _<;>try exact exo)|refine stq ?_|refine cp hf ?_|refine cp hk ?_|fail)
  all_goals(conv=>whnf)
  all_goals first
   | exact aD.int (bP om h4 asm).symm
   | (refine⟨8+1,⟨om,db h4 om⟩,om,?_⟩
      exact lq0)
 .
  have hf:=cf d 9 om;have hk:=hc 9 om;repeat' ((conv=>whnf);first|refine Idx.at (f:=D.str) (l:=am) 9 rfl (kD rfl) ?_|exact kQ|(refine bk ?_ ?_<;>intro _<;>try exact exo)|refine stq ?_|refine cp hf ?_|refine cp hk ?_|fail)
  all_goals(conv=>whnf)
  all_goals first
   | exact aD.int (bP om h4 asm).symm
   | (refine⟨9+1,⟨om,db h4 om⟩,om,?_⟩
      exact lq0)
 .
  have hf:=cf d 10 om;have hk:=hc 10 om;repeat' ((conv=>whnf);first|refine Idx.at (f:=D.str) (l:=am) 10 rfl (kD rfl) ?_|exact kQ|(refine bk ?_ ?_<;>intro _<;>try exact exo)|refine stq ?_|refine cp hf ?_|refine cp hk ?_|fail)
  all_goals(conv=>whnf)
  all_goals first
   | exact aD.int (bP om h4 asm).symm
   | (refine⟨10+1,⟨om,db h4 om⟩,om,?_⟩
      exact lq0)
 .
  have hf:=cf d 11 om;have hk:=hc 11 om;repeat' ((conv=>whnf);first|refine Idx.at (f:=D.str) (l:=am) 11 rfl (kD rfl) ?_|exact kQ|(refine bk ?_ ?_<;>intro _<;>try exact exo)|refine stq ?_|refine cp hf ?_|refine cp hk ?_|fail)
  all_goals(conv=>whnf)
  all_goals first
   | exact aD.int (bP om h4 asm).symm
   | (refine⟨11+1,⟨om,db h4 om⟩,om,?_⟩
      exact lq0)
 .
  have hf:=cf d 12 om;have hk:=hc 12 om;repeat' ((conv=>whnf);first|refine Idx.at (f:=D.str) (l:=am) 12 rfl (kD rfl) ?_|exact kQ|(refine bk ?_ ?_<;>intro _<;>try exact exo)|refine stq ?_|refine cp hf ?_|refine cp hk ?_|fail)
  all_goals(conv=>whnf)
  all_goals first
   | exact aD.int (bP om h4 asm).symm
   | (refine⟨12+1,⟨om,db h4 om⟩,om,?_⟩
      exact lq0)
 .
  have hf:=cf d 13 om;have hk:=hc 13 om;repeat' ((conv=>whnf);first|refine Idx.at (f:=D.str) (l:=am) 13 rfl (kD rfl) ?_|exact kQ|(refine bk ?_ ?_<;>intro _<;>try exact exo)|refine stq ?_|refine cp hf ?_|refine cp hk ?_|fail)
  all_goals(conv=>whnf)
  all_goals first
   | exact aD.int (bP om h4 asm).symm
   | (refine⟨13+1,⟨om,db h4 om⟩,om,?_⟩
      exact lq0)
 .
  have hf:=cf d 14 om;have hk:=hc 14 om;repeat' ((conv=>whnf);first|refine Idx.at (f:=D.str) (l:=am) 14 rfl (kD rfl) ?_|exact kQ|(refine bk ?_ ?_<;>intro _<;>try exact exo)|refine stq ?_|refine cp hf ?_|refine cp hk ?_|fail)
  all_goals(conv=>whnf)
  all_goals first
   | exact aD.int (bP om h4 asm).symm
   | (refine⟨14+1,⟨om,db h4 om⟩,om,?_⟩
      exact lq0)
 .
  have hf:=cf d 15 om;have hk:=hc 15 om;repeat' ((conv=>whnf);first|refine Idx.at (f:=D.str) (l:=am) 15 rfl (kD rfl) ?_|exact kQ|(refine bk ?_ ?_<;>intro _<;>try exact exo)|refine stq ?_|refine cp hf ?_|refine cp hk ?_|fail)
  all_goals(conv=>whnf)
  all_goals first
   | exact aD.int (bP om h4 asm).symm
   | (refine⟨15+1,⟨om,db h4 om⟩,om,?_⟩
      exact lq0)
 .
  have hf:=cf d 16 om;have hk:=hc 16 om;repeat' ((conv=>whnf);first|refine Idx.at (f:=D.str) (l:=am) 16 rfl (kD rfl) ?_|exact kQ|(refine bk ?_ ?_<;>intro _<;>try exact exo)|refine stq ?_|refine cp hf ?_|refine cp hk ?_|fail)
  all_goals(conv=>whnf)
  all_goals first
   | exact aD.int (bP om h4 asm).symm
   | (refine⟨16+1,⟨om,db h4 om⟩,om,?_⟩
      exact lq0)
 .
  have hf:=cf d 17 om;have hk:=hc 17 om;repeat' ((conv=>whnf);first|refine Idx.at (f:=D.str) (l:=am) 17 rfl (kD rfl) ?_|exact kQ|(refine bk ?_ ?_<;>intro _<;>try exact exo)|refine stq ?_|refine cp hf ?_|refine cp hk ?_|fail)
  all_goals(conv=>whnf)
  all_goals first
   | exact aD.int (bP om h4 asm).symm
   | (refine⟨17+1,⟨om,db h4 om⟩,om,?_⟩
      exact lq0)
 .
  have hf:=cf d 18 om;have hk:=hc 18 om;repeat' ((conv=>whnf);first|refine Idx.at (f:=D.str) (l:=am) 18 rfl (kD rfl) ?_|exact kQ|(refine bk ?_ ?_<;>intro _<;>try exact exo)|refine stq ?_|refine cp hf ?_|refine cp hk ?_|fail)
  all_goals(conv=>whnf)
  all_goals first
   | exact aD.int (bP om h4 asm).symm
   | (refine⟨18+1,⟨om,db h4 om⟩,om,?_⟩
      exact lq0)
 .
  have hf:=cf d 19 om;have hk:=hc 19 om;repeat' ((conv=>whnf);first|refine Idx.at (f:=D.str) (l:=am) 19 rfl (kD rfl) ?_|exact kQ|(refine bk ?_ ?_<;>intro _<;>try exact exo)|refine stq ?_|refine cp hf ?_|refine cp hk ?_|fail)
  all_goals(conv=>whnf)
  all_goals first
   | exact aD.int (bP om h4 asm).symm
   | (refine⟨19+1,⟨om,db h4 om⟩,om,?_⟩
      exact lq0)
 .
  have hf:=cf d 20 om;have hk:=hc 20 om;repeat' ((conv=>whnf);first|refine Idx.at (f:=D.str) (l:=am) 20 rfl (kD rfl) ?_|exact kQ|(refine bk ?_ ?_<;>intro _<;>try exact exo)|refine stq ?_|refine cp hf ?_|refine cp hk ?_|fail)
  all_goals(conv=>whnf)
  all_goals first
   | exact aD.int (bP om h4 asm).symm
   | (refine⟨20+1,⟨om,db h4 om⟩,om,?_⟩
      exact lq0)
 .repeat' ((conv=>whnf);first|exact kQ|(refine bk ?_ ?_<;>intro _<;>try exact exo)|refine stq ?_)
  (conv=>whnf)
  exact aD.int (lR.2 h4).symm
end
section
open Go Go.Am Classical
theorem xHJ.rbX {p:Prop}(h:p:=by first|exact Rb.cells (Rds.same (cV _)) rfl|fail):p:=h
open xHJ
section
variable [GT]
noncomputable def errs (d:Db) (em:Nat->Int):Nat->Int
 | 0=>if uX d.major/\uX d.minor then 0 else 1
 | 1=>if PrV d.cat then 0 else 11
 | 2=>if PrV d.wid then 0 else 11
 | 3=>if PrV d.scr then 0 else 11
 | 4=>if PrV d.gra then 0 else 11
 | 5=>if PrV d.wor then 0 else 11
 | 6=>if PrV d.sen then 0 else 11
 | 7=>if PrV d.lin then 0 else 11
 | 8=>if ClV d.classes then 0 else 11
 | 9=>em 9
 | 10=>if dB d.excl then 0 else 11
 | 11=>em 11
 | 12=>em 12
 | 13=>em 13
 | 14=>em 14
 | 15=>if dB d.cased then 0 else 11
 | 16=>if dB d.ignor then 0 else 11
 | 17=>if dB d.start then 0 else 11
 | 18=>if dB d.cont then 0 else 11
 | 19=>if dB d.medial then 0 else 11
 | _=>em 20
theorem ite0 {p:Prop} [Decidable p] {n:Int}(hn:n≠0):(if p then 0 else n)=0↔p:=by
 by_cases h:p<;>simp[h,hn]
theorem yH {d:Db}{em:Nat->Int}(hem:∀ k,em k=0↔MOk (gB d k)):∀ k,k<21->(errs d em k=0↔Ja d k):=by
 intro k hk;rcases(by omega:k=0\/k=1\/k=2\/k=3\/k=4\/k=5\/k=6\/k=7\/k=8\/k=9\/k=10\/k=11\/k=12\/k=13\/k=14\/k=15\/k=16\/k=17\/k=18\/k=19\/k=20) with rfl|rfl|rfl|rfl|rfl|rfl|rfl|rfl|rfl|rfl|rfl|rfl|rfl|rfl|rfl|rfl|rfl|rfl|rfl|rfl|rfl
 all_goals first
  | exact ite0 om
  | exact hem _
theorem SmD.maps {d:Db}(ho:d.ok) (hs:SmD d){k:Nat}(hk:k<21):Gk (gB d k):=⟨by have:=(hs.2.2.2 k hk).2;omega,λi h=>((ho.maps k).2 i h).1,λi h=>((ho.maps k).2 i h).2⟩
theorem xW {d:Db}{k:Nat}(hk:¬k<21):gB d k=gB d 20:=by
 unfold gB;split<;>first|omega|rfl
theorem lU {d:Db}(ho:d.ok) (hs:SmD d):∃ e:Int,Pu Tryz.prog 51 [dbD d] (i64 e)/\(e=0↔DbV d):=by
 have hm:∀ k,∃ e:Int,Pu Tryz.prog 305 [cT (gB d k)] (i64 e)/\(e=0↔MOk (gB d k)):=λk=>by
  by_cases hk:k<21
  .exact xY (SmD.maps ho hs hk)
  .rw[xW hk];exact xY (SmD.maps ho hs om)
 let em:Nat->Int:=λk=>Classical.choose (hm k)
 have h1:∀ k,Pu Tryz.prog 305 [cT (gB d k)] (i64 (em k)):=λk=>(Classical.choose_spec (hm k)).1
 have h2:∀ k,em k=0↔MOk (gB d k):=λk=>(Classical.choose_spec (hm k)).2
 have hr:∀ n,aF ((dbC d).drop n)=true:=λn=>kW n (cV d)
 refine⟨gx ((List.range 21).map (errs d em)),F8 λk hk=>?_,?_⟩
 .rcases(by omega:k=0\/k=1\/k=2\/k=3\/k=4\/k=5\/k=6\/k=7\/k=8\/k=9\/k=10\/k=11\/k=12\/k=13\/k=14\/k=15\/k=16\/k=17\/k=18\/k=19\/k=20) with rfl|rfl|rfl|rfl|rfl|rfl|rfl|rfl|rfl|rfl|rfl|rfl|rfl|rfl|rfl|rfl|rfl|rfl|rfl|rfl|rfl
  .exact Dz (hr 2)
  .exact gX (p:=d.cat) (ho.prop 0) (hr 4)
  .exact gX (p:=d.wid) (ho.prop 1) (hr 6)
  .exact gX (p:=d.scr) (ho.prop 2) (hr 8)
  .exact gX (p:=d.gra) (ho.prop 3) (hr 10)
  .exact gX (p:=d.wor) (ho.prop 4) (hr 12)
  .exact gX (p:=d.sen) (ho.prop 5) (hr 14)
  .exact gX (p:=d.lin) (ho.prop 6) (hr 16)
  .exact GK ho.classes (hr 17)
  .exact iv (l:=d.decomp) (h1 9) (hr 18)
  .exact iZ (l:=d.excl) (hs.2.2.1 0 om) (hr 19)
  .exact iv (l:=d.lower) (h1 11) (hr 20)
  .exact iv (l:=d.upper) (h1 12) (hr 21)
  .exact iv (l:=d.title) (h1 13) (hr 22)
  .exact iv (l:=d.fold) (h1 14) (hr 23)
  .exact iZ (l:=d.cased) (hs.2.2.1 1 om) (hr 24)
  .exact iZ (l:=d.ignor) (hs.2.2.1 2 om) (hr 25)
  .exact iZ (l:=d.start) (hs.2.2.1 3 om) (hr 26)
  .exact iZ (l:=d.cont) (hs.2.2.1 4 om) (hr 27)
  .exact iZ (l:=d.medial) (hs.2.2.1 5 om) (hr 28)
  .exact iv (l:=d.confu) (h1 20) (hr 29)
 .rw[lR];exact forall_congr' λk=>forall_congr' λhk=>yH h2 k hk
noncomputable def HW (d:Db) (em:Nat->Int) (k:Nat):Int:=if k=0 then 0 else errs d em k
theorem C9 {d:Db}(ho:d.ok) (hs:SmD d){em:Nat->Int}(hem:∀ k,Pu Tryz.prog 62 [cT (gB d k)] (i64 (em k))):∀ k:Nat,k<21->Pu Tryz.prog 44 [dbD d,i64 (k:Int)] (i64 (HW d em k)):=by
 intro k hk;rcases(by omega:k=0\/k=1\/k=2\/k=3\/k=4\/k=5\/k=6\/k=7\/k=8\/k=9\/k=10\/k=11\/k=12\/k=13\/k=14\/k=15\/k=16\/k=17\/k=18\/k=19\/k=20) with rfl|rfl|rfl|rfl|rfl|rfl|rfl|rfl|rfl|rfl|rfl|rfl|rfl|rfl|rfl|rfl|rfl|rfl|rfl|rfl|rfl
 .
  refine pv Tryz.func44 ?_;repeat' ((conv=>whnf);first|refine Br.strF rfl ?_|refine Br.strT rfl ?_|refine Idx.at (f:=D.str) (l:=am) 0 rfl (kD rfl) ?_|exact kQ|(refine bk ?_ ?_<;>intro _<;>try exact exo)|refine stq ?_|refine cp az ?_|fail)
  all_goals(conv=>whnf)
  all_goals first
   | (refine aD.int (Eq.symm ?_);show(if True then(0:Int) else 11)=0;exact if_pos asm)
   | (refine aD.int (Eq.symm ?_);show(if True then(0:Int) else 11)=11;exact if_neg asm)
   | exact aD.int rfl
 .
  have h1:Pu Tryz.prog 23 [dbD d,i64 ((1:Nat)-1:Int)] (bY (prop d 0)):=iD d 0 om;have h2:=eO (ho.prop 0);refine pv Tryz.func44 ?_;repeat' ((conv=>whnf);first|refine Br.strF rfl ?_|refine Br.strT rfl ?_|refine Idx.at (f:=D.str) (l:=am) 1 rfl (kD rfl) ?_|exact kQ|(refine bk ?_ ?_<;>intro _<;>try exact exo)|refine stq ?_|refine cp az ?_|refine cp h1 ?_|refine cd h2 (λ_=>?_) (λ_=>?_)|fail)
  all_goals(conv=>whnf)
  all_goals first
   | (refine aD.int (Eq.symm ?_);show(if PrV d.cat then(0:Int) else 11)=0;exact if_pos asm)
   | (refine aD.int (Eq.symm ?_);show(if PrV d.cat then(0:Int) else 11)=11;exact if_neg asm)
   | exact aD.int rfl
 .
  have h1:Pu Tryz.prog 23 [dbD d,i64 ((2:Nat)-1:Int)] (bY (prop d 1)):=iD d 1 om;have h2:=eO (ho.prop 1);refine pv Tryz.func44 ?_;repeat' ((conv=>whnf);first|refine Br.strF rfl ?_|refine Br.strT rfl ?_|refine Idx.at (f:=D.str) (l:=am) 2 rfl (kD rfl) ?_|exact kQ|(refine bk ?_ ?_<;>intro _<;>try exact exo)|refine stq ?_|refine cp az ?_|refine cp h1 ?_|refine cd h2 (λ_=>?_) (λ_=>?_)|fail)
  all_goals(conv=>whnf)
  all_goals first
   | (refine aD.int (Eq.symm ?_);show(if PrV d.wid then(0:Int) else 11)=0;exact if_pos asm)
   | (refine aD.int (Eq.symm ?_);show(if PrV d.wid then(0:Int) else 11)=11;exact if_neg asm)
   | exact aD.int rfl
 .
  have h1:Pu Tryz.prog 23 [dbD d,i64 ((3:Nat)-1:Int)] (bY (prop d 2)):=iD d 2 om;have h2:=eO (ho.prop 2);refine pv Tryz.func44 ?_;repeat' ((conv=>whnf);first|refine Br.strF rfl ?_|refine Br.strT rfl ?_|refine Idx.at (f:=D.str) (l:=am) 3 rfl (kD rfl) ?_|exact kQ|(refine bk ?_ ?_<;>intro _<;>try exact exo)|refine stq ?_|refine cp az ?_|refine cp h1 ?_|refine cd h2 (λ_=>?_) (λ_=>?_)|fail)
  all_goals(conv=>whnf)
  all_goals first
   | (refine aD.int (Eq.symm ?_);show(if PrV d.scr then(0:Int) else 11)=0;exact if_pos asm)
   | (refine aD.int (Eq.symm ?_);show(if PrV d.scr then(0:Int) else 11)=11;exact if_neg asm)
   | exact aD.int rfl
 .
  have h1:Pu Tryz.prog 23 [dbD d,i64 ((4:Nat)-1:Int)] (bY (prop d 3)):=iD d 3 om;have h2:=eO (ho.prop 3);refine pv Tryz.func44 ?_;repeat' ((conv=>whnf);first|refine Br.strF rfl ?_|refine Br.strT rfl ?_|refine Idx.at (f:=D.str) (l:=am) 4 rfl (kD rfl) ?_|exact kQ|(refine bk ?_ ?_<;>intro _<;>try exact exo)|refine stq ?_|refine cp az ?_|refine cp h1 ?_|refine cd h2 (λ_=>?_) (λ_=>?_)|fail)
  all_goals(conv=>whnf)
  all_goals first
   | (refine aD.int (Eq.symm ?_);show(if PrV d.gra then(0:Int) else 11)=0;exact if_pos asm)
   | (refine aD.int (Eq.symm ?_);show(if PrV d.gra then(0:Int) else 11)=11;exact if_neg asm)
   | exact aD.int rfl
 .
  have h1:Pu Tryz.prog 23 [dbD d,i64 ((5:Nat)-1:Int)] (bY (prop d 4)):=iD d 4 om;have h2:=eO (ho.prop 4);refine pv Tryz.func44 ?_;repeat' ((conv=>whnf);first|refine Br.strF rfl ?_|refine Br.strT rfl ?_|refine Idx.at (f:=D.str) (l:=am) 5 rfl (kD rfl) ?_|exact kQ|(refine bk ?_ ?_<;>intro _<;>try exact exo)|refine stq ?_|refine cp az ?_|refine cp h1 ?_|refine cd h2 (λ_=>?_) (λ_=>?_)|fail)
  all_goals(conv=>whnf)
  all_goals first
   | (refine aD.int (Eq.symm ?_);show(if PrV d.wor then(0:Int) else 11)=0;exact if_pos asm)
   | (refine aD.int (Eq.symm ?_);show(if PrV d.wor then(0:Int) else 11)=11;exact if_neg asm)
   | exact aD.int rfl
 .
  have h1:Pu Tryz.prog 23 [dbD d,i64 ((6:Nat)-1:Int)] (bY (prop d 5)):=iD d 5 om;have h2:=eO (ho.prop 5);refine pv Tryz.func44 ?_;repeat' ((conv=>whnf);first|refine Br.strF rfl ?_|refine Br.strT rfl ?_|refine Idx.at (f:=D.str) (l:=am) 6 rfl (kD rfl) ?_|exact kQ|(refine bk ?_ ?_<;>intro _<;>try exact exo)|refine stq ?_|refine cp az ?_|refine cp h1 ?_|refine cd h2 (λ_=>?_) (λ_=>?_)|fail)
  all_goals(conv=>whnf)
  all_goals first
   | (refine aD.int (Eq.symm ?_);show(if PrV d.sen then(0:Int) else 11)=0;exact if_pos asm)
   | (refine aD.int (Eq.symm ?_);show(if PrV d.sen then(0:Int) else 11)=11;exact if_neg asm)
   | exact aD.int rfl
 .
  have h1:Pu Tryz.prog 23 [dbD d,i64 ((7:Nat)-1:Int)] (bY (prop d 6)):=iD d 6 om;have h2:=eO (ho.prop 6);refine pv Tryz.func44 ?_;repeat' ((conv=>whnf);first|refine Br.strF rfl ?_|refine Br.strT rfl ?_|refine Idx.at (f:=D.str) (l:=am) 7 rfl (kD rfl) ?_|exact kQ|(refine bk ?_ ?_<;>intro _<;>try exact exo)|refine stq ?_|refine cp az ?_|refine cp h1 ?_|refine cd h2 (λ_=>?_) (λ_=>?_)|fail)
  all_goals(conv=>whnf)
  all_goals first
   | (refine aD.int (Eq.symm ?_);show(if PrV d.lin then(0:Int) else 11)=0;exact if_pos asm)
   | (refine aD.int (Eq.symm ?_);show(if PrV d.lin then(0:Int) else 11)=11;exact if_neg asm)
   | exact aD.int rfl
 .
  have h2:=rcls_c (l:=d.classes) ho.classes;refine pv Tryz.func44 ?_;repeat' ((conv=>whnf);first|refine Br.strF rfl ?_|refine Br.strT rfl ?_|refine Idx.at (f:=D.str) (l:=am) 8 rfl (kD rfl) ?_|exact kQ|(refine bk ?_ ?_<;>intro _<;>try exact exo)|refine stq ?_|refine cp az ?_|refine cd h2 (λ_=>?_) (λ_=>?_)|fail)
  all_goals(conv=>whnf)
  all_goals first
   | (refine aD.int (Eq.symm ?_);show(if ClV d.classes then(0:Int) else 11)=0;exact if_pos asm)
   | (refine aD.int (Eq.symm ?_);show(if ClV d.classes then(0:Int) else 11)=11;exact if_neg asm)
   | exact aD.int rfl
 .
  have h0:Pu Tryz.prog 60 [.str (iJ 9)] (i64 (-1)):=d6 9 om;have h1:=mE d 9 om;have h2:=hem 9;refine pv Tryz.func44 ?_;repeat' ((conv=>whnf);first|refine Br.strF rfl ?_|refine Br.strT rfl ?_|refine Idx.at (f:=D.str) (l:=am) 9 rfl (kD rfl) ?_|exact kQ|(refine bk ?_ ?_<;>intro _<;>try exact exo)|refine stq ?_|refine cp az ?_|refine cp h0 ?_|refine cp h1 ?_|refine cp h2 ?_|fail)
  all_goals(conv=>whnf)
  all_goals first
   | (refine aD.int (Eq.symm ?_);show(if True then(0:Int) else 11)=0;exact if_pos asm)
   | (refine aD.int (Eq.symm ?_);show(if True then(0:Int) else 11)=11;exact if_neg asm)
   | exact aD.int rfl
 .
  have h0:Pu Tryz.prog 60 [.str (iJ 10)] (i64 (0)):=d6 10 om;have h1:=mD d 0 om;have h2:=eN (rs:=d.excl) (hs.2.2.1 0 om);refine pv Tryz.func44 ?_;repeat' ((conv=>whnf);first|refine Br.strF rfl ?_|refine Br.strT rfl ?_|refine Idx.at (f:=D.str) (l:=am) 10 rfl (kD rfl) ?_|exact kQ|(refine bk ?_ ?_<;>intro _<;>try exact exo)|refine stq ?_|refine cp az ?_|refine cp h0 ?_|refine cp h1 ?_|refine cd h2 (λ_=>?_) (λ_=>?_)|fail)
  all_goals(conv=>whnf)
  all_goals first
   | (refine aD.int (Eq.symm ?_);show(if dB d.excl then(0:Int) else 11)=0;exact if_pos asm)
   | (refine aD.int (Eq.symm ?_);show(if dB d.excl then(0:Int) else 11)=11;exact if_neg asm)
   | exact aD.int rfl
 .
  have h0:Pu Tryz.prog 60 [.str (iJ 11)] (i64 (-1)):=d6 11 om;have h1:=mE d 11 om;have h2:=hem 11;refine pv Tryz.func44 ?_;repeat' ((conv=>whnf);first|refine Br.strF rfl ?_|refine Br.strT rfl ?_|refine Idx.at (f:=D.str) (l:=am) 11 rfl (kD rfl) ?_|exact kQ|(refine bk ?_ ?_<;>intro _<;>try exact exo)|refine stq ?_|refine cp az ?_|refine cp h0 ?_|refine cp h1 ?_|refine cp h2 ?_|fail)
  all_goals(conv=>whnf)
  all_goals first
   | (refine aD.int (Eq.symm ?_);show(if True then(0:Int) else 11)=0;exact if_pos asm)
   | (refine aD.int (Eq.symm ?_);show(if True then(0:Int) else 11)=11;exact if_neg asm)
   | exact aD.int rfl
 .
  have h0:Pu Tryz.prog 60 [.str (iJ 12)] (i64 (-1)):=d6 12 om;have h1:=mE d 12 om;have h2:=hem 12;refine pv Tryz.func44 ?_;repeat' ((conv=>whnf);first|refine Br.strF rfl ?_|refine Br.strT rfl ?_|refine Idx.at (f:=D.str) (l:=am) 12 rfl (kD rfl) ?_|exact kQ|(refine bk ?_ ?_<;>intro _<;>try exact exo)|refine stq ?_|refine cp az ?_|refine cp h0 ?_|refine cp h1 ?_|refine cp h2 ?_|fail)
  all_goals(conv=>whnf)
  all_goals first
   | (refine aD.int (Eq.symm ?_);show(if True then(0:Int) else 11)=0;exact if_pos asm)
   | (refine aD.int (Eq.symm ?_);show(if True then(0:Int) else 11)=11;exact if_neg asm)
   | exact aD.int rfl
 .
  have h0:Pu Tryz.prog 60 [.str (iJ 13)] (i64 (-1)):=d6 13 om;have h1:=mE d 13 om;have h2:=hem 13;refine pv Tryz.func44 ?_;repeat' ((conv=>whnf);first|refine Br.strF rfl ?_|refine Br.strT rfl ?_|refine Idx.at (f:=D.str) (l:=am) 13 rfl (kD rfl) ?_|exact kQ|(refine bk ?_ ?_<;>intro _<;>try exact exo)|refine stq ?_|refine cp az ?_|refine cp h0 ?_|refine cp h1 ?_|refine cp h2 ?_|fail)
  all_goals(conv=>whnf)
  all_goals first
   | (refine aD.int (Eq.symm ?_);show(if True then(0:Int) else 11)=0;exact if_pos asm)
   | (refine aD.int (Eq.symm ?_);show(if True then(0:Int) else 11)=11;exact if_neg asm)
   | exact aD.int rfl
 .
  have h0:Pu Tryz.prog 60 [.str (iJ 14)] (i64 (-1)):=d6 14 om;have h1:=mE d 14 om;have h2:=hem 14;refine pv Tryz.func44 ?_;repeat' ((conv=>whnf);first|refine Br.strF rfl ?_|refine Br.strT rfl ?_|refine Idx.at (f:=D.str) (l:=am) 14 rfl (kD rfl) ?_|exact kQ|(refine bk ?_ ?_<;>intro _<;>try exact exo)|refine stq ?_|refine cp az ?_|refine cp h0 ?_|refine cp h1 ?_|refine cp h2 ?_|fail)
  all_goals(conv=>whnf)
  all_goals first
   | (refine aD.int (Eq.symm ?_);show(if True then(0:Int) else 11)=0;exact if_pos asm)
   | (refine aD.int (Eq.symm ?_);show(if True then(0:Int) else 11)=11;exact if_neg asm)
   | exact aD.int rfl
 .
  have h0:Pu Tryz.prog 60 [.str (iJ 15)] (i64 (1)):=d6 15 om;have h1:=mD d 1 om;have h2:=eN (rs:=d.cased) (hs.2.2.1 1 om);refine pv Tryz.func44 ?_;repeat' ((conv=>whnf);first|refine Br.strF rfl ?_|refine Br.strT rfl ?_|refine Idx.at (f:=D.str) (l:=am) 15 rfl (kD rfl) ?_|exact kQ|(refine bk ?_ ?_<;>intro _<;>try exact exo)|refine stq ?_|refine cp az ?_|refine cp h0 ?_|refine cp h1 ?_|refine cd h2 (λ_=>?_) (λ_=>?_)|fail)
  all_goals(conv=>whnf)
  all_goals first
   | (refine aD.int (Eq.symm ?_);show(if dB d.cased then(0:Int) else 11)=0;exact if_pos asm)
   | (refine aD.int (Eq.symm ?_);show(if dB d.cased then(0:Int) else 11)=11;exact if_neg asm)
   | exact aD.int rfl
 .
  have h0:Pu Tryz.prog 60 [.str (iJ 16)] (i64 (2)):=d6 16 om;have h1:=mD d 2 om;have h2:=eN (rs:=d.ignor) (hs.2.2.1 2 om);refine pv Tryz.func44 ?_;repeat' ((conv=>whnf);first|refine Br.strF rfl ?_|refine Br.strT rfl ?_|refine Idx.at (f:=D.str) (l:=am) 16 rfl (kD rfl) ?_|exact kQ|(refine bk ?_ ?_<;>intro _<;>try exact exo)|refine stq ?_|refine cp az ?_|refine cp h0 ?_|refine cp h1 ?_|refine cd h2 (λ_=>?_) (λ_=>?_)|fail)
  all_goals(conv=>whnf)
  all_goals first
   | (refine aD.int (Eq.symm ?_);show(if dB d.ignor then(0:Int) else 11)=0;exact if_pos asm)
   | (refine aD.int (Eq.symm ?_);show(if dB d.ignor then(0:Int) else 11)=11;exact if_neg asm)
   | exact aD.int rfl
 .
  have h0:Pu Tryz.prog 60 [.str (iJ 17)] (i64 (3)):=d6 17 om;have h1:=mD d 3 om;have h2:=eN (rs:=d.start) (hs.2.2.1 3 om);refine pv Tryz.func44 ?_;repeat' ((conv=>whnf);first|refine Br.strF rfl ?_|refine Br.strT rfl ?_|refine Idx.at (f:=D.str) (l:=am) 17 rfl (kD rfl) ?_|exact kQ|(refine bk ?_ ?_<;>intro _<;>try exact exo)|refine stq ?_|refine cp az ?_|refine cp h0 ?_|refine cp h1 ?_|refine cd h2 (λ_=>?_) (λ_=>?_)|fail)
  all_goals(conv=>whnf)
  all_goals first
   | (refine aD.int (Eq.symm ?_);show(if dB d.start then(0:Int) else 11)=0;exact if_pos asm)
   | (refine aD.int (Eq.symm ?_);show(if dB d.start then(0:Int) else 11)=11;exact if_neg asm)
   | exact aD.int rfl
 .
  have h0:Pu Tryz.prog 60 [.str (iJ 18)] (i64 (4)):=d6 18 om;have h1:=mD d 4 om;have h2:=eN (rs:=d.cont) (hs.2.2.1 4 om);refine pv Tryz.func44 ?_;repeat' ((conv=>whnf);first|refine Br.strF rfl ?_|refine Br.strT rfl ?_|refine Idx.at (f:=D.str) (l:=am) 18 rfl (kD rfl) ?_|exact kQ|(refine bk ?_ ?_<;>intro _<;>try exact exo)|refine stq ?_|refine cp az ?_|refine cp h0 ?_|refine cp h1 ?_|refine cd h2 (λ_=>?_) (λ_=>?_)|fail)
  all_goals(conv=>whnf)
  all_goals first
   | (refine aD.int (Eq.symm ?_);show(if dB d.cont then(0:Int) else 11)=0;exact if_pos asm)
   | (refine aD.int (Eq.symm ?_);show(if dB d.cont then(0:Int) else 11)=11;exact if_neg asm)
   | exact aD.int rfl
 .
  have h0:Pu Tryz.prog 60 [.str (iJ 19)] (i64 (5)):=d6 19 om;have h1:=mD d 5 om;have h2:=eN (rs:=d.medial) (hs.2.2.1 5 om);refine pv Tryz.func44 ?_;repeat' ((conv=>whnf);first|refine Br.strF rfl ?_|refine Br.strT rfl ?_|refine Idx.at (f:=D.str) (l:=am) 19 rfl (kD rfl) ?_|exact kQ|(refine bk ?_ ?_<;>intro _<;>try exact exo)|refine stq ?_|refine cp az ?_|refine cp h0 ?_|refine cp h1 ?_|refine cd h2 (λ_=>?_) (λ_=>?_)|fail)
  all_goals(conv=>whnf)
  all_goals first
   | (refine aD.int (Eq.symm ?_);show(if dB d.medial then(0:Int) else 11)=0;exact if_pos asm)
   | (refine aD.int (Eq.symm ?_);show(if dB d.medial then(0:Int) else 11)=11;exact if_neg asm)
   | exact aD.int rfl
 .
  have h0:Pu Tryz.prog 60 [.str (iJ 20)] (i64 (-1)):=d6 20 om;have h1:=mE d 20 om;have h2:=hem 20;refine pv Tryz.func44 ?_;repeat' ((conv=>whnf);first|refine Br.strF rfl ?_|refine Br.strT rfl ?_|refine Idx.at (f:=D.str) (l:=am) 20 rfl (kD rfl) ?_|exact kQ|(refine bk ?_ ?_<;>intro _<;>try exact exo)|refine stq ?_|refine cp az ?_|refine cp h0 ?_|refine cp h1 ?_|refine cp h2 ?_|fail)
  all_goals(conv=>whnf)
  all_goals first
   | (refine aD.int (Eq.symm ?_);show(if True then(0:Int) else 11)=0;exact if_pos asm)
   | (refine aD.int (Eq.symm ?_);show(if True then(0:Int) else 11)=11;exact if_neg asm)
   | exact aD.int rfl
theorem eB {d:Db}(ho:d.ok) (hs:SmD d):∃ e:Int,Pu Tryz.prog 33 [dbD d] (i64 e)/\(e=0↔DbV d):=by
 have hm:∀ k,∃ e:Int,Pu Tryz.prog 62 [cT (gB d k)] (i64 e)/\(e=0↔MOk (gB d k)):=λk=>by
  by_cases hk:k<21
  .exact tF (SmD.maps ho hs hk)
  .rw[xW hk];exact tF (SmD.maps ho hs om)
 let em:Nat->Int:=λk=>Classical.choose (hm k)
 have h1:∀ k,Pu Tryz.prog 62 [cT (gB d k)] (i64 (em k)):=λk=>(Classical.choose_spec (hm k)).1
 have h2:∀ k,em k=0↔MOk (gB d k):=λk=>(Classical.choose_spec (hm k)).2
 by_cases hv:uX d.major/\uX d.minor
 .refine⟨gx ((List.range 21).map (HW d em)),?_,?_⟩
  .refine pv Tryz.func33 ?_;repeat' ((conv=>whnf);first|exact kQ|(refine bk ?_ ?_<;>intro _<;>try exact exo)|refine stq ?_|refine cd Av (λ_=>?_) (λ_=>?_)|fail)
   all_goals(conv=>whnf)
   all_goals first
    | (exfalso;rename_i h;exact h hv.1)
    | (exfalso;rename_i h;exact h hv.2)
    | skip
   refine aG.by aB T0 (λk:Nat=>⟨tmp 29 [(1,.ptr 0 0),(3,i64 (k:Int))],⟨1,[(0,.cells (dbC d) true)]⟩⟩)
    (λk=>k<=21/\∀ i,i<k->HW d em i=0) (λk=>21-k) 0 ⟨om,λ_ h=>om⟩ ?_ ?_
   .exact lq [(0,_)] []
   intro k ⟨h3,h4⟩;have hfl:am.length=21:=rfl;by_cases hk:k<21
   .have hf:=C9 ho hs h1 k hk;repeat' ((conv=>whnf);first|exact kQ|(refine bk ?_ ?_<;>intro _<;>try exact exo)|refine stq ?_|refine cp az ?_|refine cp hf ?_|fail)
    all_goals(conv=>whnf)
    all_goals first
     | exact aD.int (bP hk h4 asm).symm
     | (refine⟨k+1,⟨om,db h4 om⟩,om,?_⟩
        exact lq [(0,_)] [])
   .repeat' ((conv=>whnf);first|exact kQ|(refine bk ?_ ?_<;>intro _<;>try exact exo)|refine stq ?_|refine cp az ?_|fail)
    (conv=>whnf)
    exact aD.int (lR.2 λi hi=>h4 i om).symm
  .rw[lR];refine forall_congr' λk=>forall_congr' λhk=>?_
   by_cases hk0:k=0
   .subst hk0;exact⟨λ_=>hv,λ_=>rfl⟩
   .rw[HW,if_neg hk0];exact yH h2 k hk
 .refine⟨1,?_,λh=>om,λh=>absurd (h 0 om) hv⟩;refine pv Tryz.func33 ?_;repeat' ((conv=>whnf);first|exact kQ|(refine bk ?_ ?_<;>intro _<;>try exact exo)|refine stq ?_|refine cd Av (λ_=>?_) (λ_=>?_)|fail)
  all_goals(conv=>whnf)
  all_goals first
   | exact aD.same rfl rfl
   | (exfalso;rename_i h1 h2;exact hv ⟨h1,h2⟩)
end
end
section
open Go Go.Am Classical
variable [GT]
theorem w9 {α:Type}{f:α->D}(h:∀ x,one (f x)=true):∀ l:List α,ep (l.map f)=true
 | []=>rfl
 | x::l=>by simp[ep,h,w9 h l]
theorem xA:∀ a b:List D,ep (a++b)=(ep a&&ep b)
 | [],b=>by simp[ep]
 | d::a,b=>by simp[ep,xA a b,Bool.and_assoc]
theorem tP {α:Type}{c:α->List D}(h:∀ x,ep (c x)=true):∀ l:List α,ep (l.flatMap c)=true
 | []=>rfl
 | x::l=>by simp[xA,h,tP h l]
theorem eI.lstS {α:Type}{c:α->List D}{sz:Nat}(hc:∀ x,(c x).length=sz){h:aA}{l:List α}{K:Nat->List D->Prop}(go:K l.length (l.flatMap c)):eI h sz (.imm l.length (l.flatMap c)) K:=⟨_,_,by simp[cN,aa hc],go⟩
theorem Rd.frzT {h:aA}{fz:Nat->Bool}{σ:Nat->Option Nat}{l:List Str}{id n cap es:Nat}{ex:Bool}{cs:List D}{bx:Bool}(hf:fz id=true) (hg:h.get id=some (.cells cs bx)) (hn:n=l.length) (he:es=1) (hc:cs=l.map D.str):Rd h fz σ (.sl id 0 n cap es ex) (strs l):=by
 rw[show strs l=lstS (λs=>[D.str s]) l from(qw l).symm];exact Rd.frzL (c:=λs:Str=>[D.str s]) (sz:=1) (λ_=>rfl) (λ_=>rfl) hf hg hn he (by rw[hc,aN])
theorem GL {l:List Str}(hl:l.length<=1000):Pu Tryz.prog 77 [strs l] (strs l):=by
 cases l with
 | nil=>
  refine Pu.empty ?_ ?_
  .refine pv Tryz.func77 ?_;repeat' ((conv=>whnf);first|exact kQ|(refine bk ?_ ?_<;>intro _<;>try exact exo)|refine stq ?_)
   (conv=>whnf)
   exact⟨.nil⟩
  .refine pv Tryz.func77 ?_;repeat' ((conv=>whnf);first|exact kQ|(refine bk ?_ ?_<;>intro _<;>try exact exo)|refine stq ?_)
   (conv=>whnf)
   exact⟨Rd.frz rfl rfl (kD rfl) (Rds.eqs rfl rfl)⟩
 | cons x xs=>
  have hx2:(x::xs).length=xs.length+1:=rfl;refine pv Tryz.func77 ?_;repeat' ((conv=>whnf);first|exact kQ|(refine bk ?_ ?_<;>intro _<;>try exact exo)|refine stq ?_|refine eI.lst ?_|refine Chk.mk (w9 (λ_=>rfl) _) ?_|refine Chk.growX 16 1 rfl rfl om om si ?_)
  (conv=>whnf)
  exact⟨Rd.frzT rfl rfl si rfl si⟩
theorem EN (s:Spn):(EO s).length=3:=rfl
theorem GM {l:List Spn}(hl:l.length<=1000):Pu Tryz.prog 78 [cg l] (cg l):=by
 cases l with
 | nil=>
  refine Pu.empty ?_ ?_
  .refine pv Tryz.func78 ?_;repeat' ((conv=>whnf);first|exact kQ|(refine bk ?_ ?_<;>intro _<;>try exact exo)|refine stq ?_)
   (conv=>whnf)
   exact⟨.nil⟩
  .refine pv Tryz.func78 ?_;repeat' ((conv=>whnf);first|exact kQ|(refine bk ?_ ?_<;>intro _<;>try exact exo)|refine stq ?_)
   (conv=>whnf)
   exact⟨Rd.frz rfl rfl (kD rfl) (Rds.eqs rfl rfl)⟩
 | cons x xs=>
  have hx2:(x::xs).length=xs.length+1:=rfl;refine pv Tryz.func78 ?_;repeat' ((conv=>whnf);first|exact kQ|(refine bk ?_ ?_<;>intro _<;>try exact exo)|refine stq ?_|refine eI.lstS (c:=EO) (sz:=3) (l:=x::xs) (λ_=>rfl) ?_|refine Chk.mk (tP (λ_=>rfl) _) ?_|refine Chk.growX 24 3 rfl rfl om om si ?_)
  (conv=>whnf)
  exact⟨Rd.frzL EN (λ_=>rfl) rfl rfl si rfl si⟩
theorem pw {d:Db}(hs:∀ k,k<7->(prop d k).names.length<=30/\(prop d k).spans.length<=16):∀ k:Nat,k<7->Pu Tryz.prog 52 [dbD d,i64 (k:Int)] (bY (prop d k)):=by
 intro k hk;have hn:=io (prop d k);have h1:=hs k hk;have c1:=GL (l:=(prop d k).names) om;have c2:=GM (l:=(prop d k).spans) om;rcases(by omega:k=0\/k=1\/k=2\/k=3\/k=4\/k=5\/k=6) with rfl|rfl|rfl|rfl|rfl|rfl|rfl
 all_goals
  refine pv Tryz.func52 ?_;repeat' ((conv=>whnf);first|exact kQ|(refine bk ?_ ?_<;>intro _<;>try exact exo)|refine stq ?_|refine cp c1 ?_|refine cp c2 ?_|(apply Cll.inl aB T0 Tryz.func76 rfl rfl ?_;rotate_left)|exact⟨Or.inr rfl,rfl,rfl⟩|refine ac.by (id:=4) aB T0 [0,1,3,7,15,0,32,96,224,511,1023,2047] (by kernel_rfl) ?_|refine Chk.mk ⟨_,rfl⟩ ?_|fail)
  (conv=>whnf)
  exact⟨Rd.eqd rfl hn⟩
end
end Go.Proofs.YtlimkdlhldlolaaGreatDoor
