/-
  The example at the head of the statements of layer 33.
-/
import Derived.Test.YtbmdndckndnehaaGreatDoorL3
import Derived.Test.YtbmdndckndnehaaGreatDoorV0
set_option linter.unusedSectionVars false
namespace Go.Proofs.YtbmdndckndnehaaGreatDoor
section
open Go Go.Am
set_option maxRecDepth 1000000
theorem xL6.rdX {p:Prop}(h:p:=by first|exact rH rfl rfl rfl rfl|exact Rd.eqd rfl hdb|fail):p:=h
open xL6
abbrev BW:Prp:=⟨[[79,116,104,101,114]],[]⟩
abbrev Gp:Prp:=⟨[[79,116,104,101,114],[67,82],[76,70],[69,120,116,101,110,100]],[⟨10,10,2⟩,⟨13,13,1⟩,⟨769,769,3⟩]⟩
abbrev smp:Db:=⟨0,0,BW,BW,BW,Gp,BW,BW,BW,[],[],[],[],[],[],[],[],[],[],[],[],[]⟩
abbrev sX:D:=.agg [strs cl1,aF (rs1.map (·.act)),bS LN1,bS LM1,bS RN1,bS RM1]
noncomputable def Fr (g:FuncId) (ds:List D):Option D:=
 if Nat.beq g 80=true then(if oB ds [sX]=true then some (boo true) else none) else spC g ds
open Classical in
theorem valid1:@Pu gtR Tryz.prog 80 [sX] (boo true):=by
 letI:=gtR;have h:=mX (t:=t1) tv1.2;rw[decide_eq_true tv1.1,t1,<-sV] at h;exact h
theorem zg:@oU gtR Tryz.prog Fr:=λg ds d h=>by
 letI:=gtR;unfold Fr at h;split at h
 ·rename_i hg;obtain rfl:=Nat.eq_of_beq_eq_true hg;split at h
  ·rename_i he;injection h with h;subst h
   rw[fK _ _ he];exact valid1
  ·cases h
 ·exact dV g ds d h
theorem smp_c:@Pu gtR Tryz.prog 35 [] (dbD smp):=by
 letI:=gtR;exact Pu.of_t aB T0 dV rfl (by kernel_rfl:ef gtR Tryz.prog (ek Tryz.prog) spC 100 (.fn 35) [] .emp 0 (λd1 h1 _=>dW h1 100000 d1 (dbD smp))=true)
theorem zi:@Pu gtR Tryz.prog 51 [dbD smp] (i64 0):=by
 letI:=gtR;exact Pu.of_t aB T0 dV (by kernel_rfl) (by kernel_rfl:ef gtR Tryz.prog (ek Tryz.prog) spC 1000 (.fn 51) [dbD smp] .emp 0 (λd1 h1 _=>dW h1 100000 d1 (i64 0))=true)
theorem Fs:∀ k,k<7->(prop smp k).names.length<=30∧(prop smp k).spans.length<=16:=λk hk=>by
 rcases(by omega:k=0∨k=1∨k=2∨k=3∨k=4∨k=5∨k=6) with rfl|rfl|rfl|rfl|rfl|rfl|rfl
 all_goals exact⟨by decide,by decide⟩
theorem smp_a (a:Bool):@Pu gtR Tryz.prog 67 [cm Gp,sX,aF (if a then [97,769,98] else [13,10,97])] (aF [2,1,2,2]):=by
 letI:=gtR;cases a
 ·exact Pu.of_t aB T0 zg (by kernel_rfl) (by kernel_rfl:ef gtR Tryz.prog (ek Tryz.prog) Fr 1000 (.fn 67) [cm Gp,sX,aF [13,10,97]] .emp 0 (λd1 h1 _=>dW h1 100000 d1 (aF [2,1,2,2]))=true)
 ·exact Pu.of_t aB T0 zg (by kernel_rfl) (by kernel_rfl:ef gtR Tryz.prog (ek Tryz.prog) Fr 1000 (.fn 67) [cm Gp,sX,aF [97,769,98]] .emp 0 (λd1 h1 _=>dW h1 100000 d1 (aF [2,1,2,2]))=true)
theorem Hk (a:Bool):@Pu gtR Tryz.prog 17 [dbD smp,i64 1,aF (if a then [97,769,98] else [13,10,97])] (.tup [ay [⟨0,2⟩,⟨2,3⟩],i64 0]):=by
 letI:=gtR;have hd:=w9 (d:=smp) (k:=1) (t:=t1) (.inl rfl) Fs zi Ct;have ha:=smp_a a;have e:sX=dU t1:=by rw[t1,<-sV]
 rw[e] at ha;exact xI hd (Au ha (by decide))
theorem AS {l:List Int}(h:l.length<=1000):@Pu gtR Tryz.prog 16 [aF l,aF l] (boo true):=by
 have:=@Ax gtR l l om
 rwa [decide_eq_true rfl] at this
theorem jU:@Pu gtR Tryz.prog 13 [] (boo true):=by
 letI:=gtR;have hdb:aK (dbD smp)=true:=by kernel_rfl
 have hs:=smp_c;have hR:Pu Tryz.prog 34 [dbD smp,aF [97,769,98]] (.tup [aF [98,97,769],i64 0]):=CS (Hk true) ⟨rfl,by decide,rfl,by decide,rfl⟩ (by decide);have hT:Pu Tryz.prog 36 [dbD smp,aF [13,10,97],i64 1] (.tup [aF [13,10],i64 0]):=zK (Hk false) ⟨rfl,by decide,rfl,by decide,rfl⟩ (by decide) (by decide);have hB:Pu Tryz.prog 14 [dbD smp,i64 5,aI] (.tup [aI,i64 8]):=Ag rfl (by decide) (oD zi (by decide));have h1:=AS (l:=[98,97,769]) (by decide);have h2:=AS (l:=[13,10]) (by decide);refine pv Tryz.func13 ?_;repeat' ((conv=>whnf);first|exact kQ|(refine bk ?_ ?_<;>intro _<;>try(exfalso;omega))|refine stq ?_|refine cp hs ?_|refine cp hB ?_|refine Cll.emb (hR ⟨0,[]⟩) [] [2] (.tup [aF [98,97,769],i64 0]) [] [] rfl cI bxA rdA bxA reA ?_|refine Cll.emb (hT ⟨0,[]⟩) [] [10] (.tup [aF [13,10],i64 0]) [] [] rfl cI bxA rdA bxA reA ?_|refine Cll.emb (h1 ⟨0,[]⟩) [] [25] (boo true) [] [] rfl cI bxA rdA bxA reA ?_|refine Cll.emb (h2 ⟨0,[]⟩) [] [33] (boo true) [] [] rfl cI bxA rdA bxA reA ?_|fail)
 all_goals(conv=>whnf)
 exact aC.same rfl rfl
end
section
open Go Go.Am Classical
set_option maxRecDepth 100000
end
end Go.Proofs.YtbmdndckndnehaaGreatDoor
