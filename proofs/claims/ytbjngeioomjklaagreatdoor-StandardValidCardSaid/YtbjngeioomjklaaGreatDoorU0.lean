/-
  A closed run of StandardValid in which some calls are answered by contracts.
-/
import Derived.Test.YtbjngeioomjklaaGreatDoorC11
import Derived.Test.YtbjngeioomjklaaGreatDoorD1
import Derived.Test.YtbjngeioomjklaaGreatDoorW1
import Derived.Test.YtbjngeioomjklaaGreatDoorK1
import Derived.Test.YtbjngeioomjklaaGreatDoorW2
namespace Go.Proofs.YtbjngeioomjklaaGreatDoor
open Go Go.Am
set_option maxRecDepth 100000
set_option linter.unusedSectionVars false
structure VF (cl:List Str) (rs:List Rul) (u:D):Prop where
 chk:@Pu gtR Tryz.prog 22 [.agg [strs cl,lstS rulC rs]] (i64 0)
 str:@Pu gtR Tryz.prog 10 [strs cl,strs cl] (boo true)
 cmp:∀ (bs L2:List (Nat×Box)) (dc dr:D) (N2:Nat) (H3:Heap),@AC1 gtR Tryz.prog 40 [.agg [dc,dr]] ⟨200005,(200001,nil6) :: (200000,.cells [dc,dr] true) :: bs⟩ (i64 0) ⟨N2,L2⟩→getL L2 200001=some nil6→getL L2 200000=some (.cells [dc,dr] true) →
  (∀ id b,H3.get id=some b→getL L2 id=some b∧(id != 200001)=true)→Rd H3 (fun _=>true) (fun _=>none) dc (strs cl)→Rd H3 (fun _=>true) (fun _=>none) dr (lstS rulC rs) →
  @AC1 gtR Tryz.prog 24 [.agg [dc,dr]] ⟨200000,bs⟩ (.tup [u,i64 0]) ⟨300000,[]⟩
section
variable (sp:FuncId→List D→Option D) (f:Nat) (cl:List Str) (rs:List Rul) (u:D)
noncomputable def hookP (ds:List D) (h:HT) (nx:Nat) (K:D→HT→Nat→Bool):Bool:=
 callT gtR Tryz.prog (tiOf Tryz.prog) sp f (.fn 16) ds h nx fun d h1 nx1=>ifB (Nat.ble nx1 190000) (K d h1 190000) false
noncomputable def hookB (ds':List D) (x:D) (ds:List D) (h:HT) (nx:Nat) (K:D→HT→Nat→Bool):Bool:=ifB (retBs h 100000 ds ds') (K x h nx) false
noncomputable def hookC (ds:List D) (h:HT) (nx:Nat) (K:D→HT→Nat→Bool):Bool:=
 match ds with
 | [.agg [dc,dr]]=>
  match h.get 190002,h.get 190003 with
  | some b2,some b3=>
   ifB (Nat.ble nx 200000) (callT gtR Tryz.prog (tiOf Tryz.prog) sp f (.fn 40) [.agg [dc,dr]] ((((h.del 190002).del 190003).put 200000 (.cells [dc,dr] true)).put 200001 nil6) 200005 fun d2 h2 _=>
    ifB (eqD d2 (i64 0) && isB (h2.get 200001) nil6 && isB (h2.get 200000) (.cells [dc,dr] true) && retB (h2.del 200001) 100000 dc (strs cl) && retB (h2.del 200001) 100000 dr (lstS rulC rs))
     (K (.tup [u,i64 0]) (treeOf [(190002,b2),(190003,b3)]) 300000) false) false
  | _,_=>false
 | _=>false
noncomputable def hooked:XC:=fun k ds h nx K=>
 match k with
 | .fn g=>ifB (Nat.beq g 16) (hookP sp f ds h nx K) (ifB (Nat.beq g 22) (hookB [.agg [strs cl,lstS rulC rs]] (i64 0) ds h nx K) (ifB (Nat.beq g 10) (hookB [strs cl,strs cl] (boo true) ds h nx K) (ifB (Nat.beq g 24) (hookC sp f cl rs u ds h nx K) (callT gtR Tryz.prog (tiOf Tryz.prog) sp f (.fn g) ds h nx K))))
 | .yf _=>false
end
theorem getL_two {b2 b3:Box}{j:Nat}{B:Box}(h:getL [(190002,b2),(190003,b3)] j=some B):j=190002∨j=190003:=by
 simp only [getL] at h
 split at h
 ·exact .inl (by omega)
 ·split at h
  ·exact .inr (by omega)
  ·cases h
theorem live_ok {sp:FuncId→List D→Option D}(S:@SpOk gtR Tryz.prog sp){f:Nat}{g:FuncId}{ds:List D}{h:HT}{nx:Nat}{K:D→HT→Nat→Bool}(hs:callT gtR Tryz.prog (tiOf Tryz.prog) sp f (.fn g) ds h nx K=true):∃ d h' nx',@AC1 gtR Tryz.prog g ds (h.heap nx) d (h'.heap nx')∧K d h' nx'=true:=by
 letI:=gtR
 rw [callT_eq] at hs
 exact xcallF_ok mixed T0 S f _ _ _ _ _ hs
theorem hookC_ok {sp:FuncId→List D→Option D}(S:@SpOk gtR Tryz.prog sp){f:Nat}{cl:List Str}{rs:List Rul}{u:D}(V:VF cl rs u){ds:List D}{h:HT}{nx:Nat}{K:D→HT→Nat→Bool}(hs:hookC sp f cl rs u ds h nx K=true):∃ d h' nx',@AC1 gtR Tryz.prog 24 ds (h.heap nx) d (h'.heap nx')∧K d h' nx'=true:=by
 letI:=gtR
 unfold hookC at hs
 split at hs
 ·rename_i dc dr
  split at hs
  ·rename_i b2 b3 g2 g3
   rcases ifB_true hs with ⟨hn,hs⟩|⟨_,h0⟩
   ·obtain ⟨d2,h2,nx2,c1,c2⟩:=live_ok S hs
    rcases ifB_true c2 with ⟨hc,hK⟩|⟨_,h0⟩
    ·simp only [Bool.and_eq_true] at hc
     obtain ⟨⟨⟨⟨e1,e2⟩,e3⟩,e4⟩,e5⟩:=hc
     rw [eqD_eq _ _ e1] at c1
     have hgl:∀ (t:HT) (n i:Nat),getL (t.heap n).bs i=t.get i:=fun t n i=>HT.heap_get
     generalize hh:(h.del 190002).del 190003=h' at c1
     have q1:∀ i,h'.get i=if i=190002∨i=190003 then none else h.get i:=fun i=>by
      rw [← hh,HT.get_del,HT.get_del]
      by_cases a:i=190002
      ·subst a;simp
      ·by_cases b:i=190003
       ·subst b;simp
       ·rw [if_neg (fun e=>b e.symm),if_neg (fun e=>a e.symm),if_neg (by omega)]
     have hcmp:=V.cmp (h'.heap 200000).bs (h2.heap nx2).bs dc dr nx2 ((h2.del 200001).heap 0) ?_ (by rw [hgl];exact isB_eq e2) (by rw [hgl];exact isB_eq e3) (fun id b hg=>by
      rw [HT.heap_get,HT.get_del] at hg
      split at hg
      ·cases hg
      ·rename_i hne
       exact ⟨by rw [hgl];exact hg,by simpa using fun e=>hne e.symm⟩) (retB_rd _ _ _ e4) (retB_rd _ _ _ e5)
     ·have hfr:=hcmp.frame [(190002,b2),(190003,b3)] (fun j B hj=>by
       refine ⟨?_,rfl⟩
       rw [hgl,q1,if_pos (getL_two hj)])
      refine ⟨_,treeOf [(190002,b2),(190003,b3)],300000,AC1.congr (h:=⟨nx,[(190002,b2),(190003,b3)] ++ (h'.heap 200000).bs⟩) (h1:=⟨300000,[(190002,b2),(190003,b3)] ++ []⟩) ⟨rfl,fun i=>?_⟩ ⟨rfl,fun i=>?_⟩ (hfr.low (Nat.le_of_ble_eq_true hn)),hK⟩
      ·show getL ([(190002,b2),(190003,b3)] ++ (h'.heap 200000).bs) i=(h.heap nx).get i
       rw [HT.heap_get,getL_app,hgl,q1]
       by_cases a:i=190002
       ·subst a;rw [g2];rfl
       ·by_cases b:i=190003
        ·subst b;rw [g3];rfl
        ·rw [if_neg (by omega)]
         simp only [getL,if_neg (fun e=>a (Eq.symm e)),if_neg (fun e=>b (Eq.symm e)),Option.none_or]
      ·show getL ([(190002,b2),(190003,b3)] ++ []) i=((treeOf [(190002,b2),(190003,b3)]).heap 300000).get i
       rw [HT.heap_get,treeOf_get,List.append_nil]
     ·refine AC1.congr (h:=((h'.put 200000 (.cells [dc,dr] true)).put 200001 nil6).heap 200005) ⟨rfl,fun i=>?_⟩ ⟨rfl,fun i=>rfl⟩ c1
      rw [HT.heap_get,HT.get_put,HT.get_put]
      simp only [Heap.get,getL]
      rw [hgl]
    ·cases h0
   ·cases h0
  ·cases hs
 ·cases hs
theorem hooked_ok {sp:FuncId→List D→Option D}(S:@SpOk gtR Tryz.prog sp){f:Nat}{cl:List Str}{rs:List Rul}{u:D}(V:VF cl rs u):@XOk gtR Tryz.prog (hooked sp f cl rs u):=by
 letI:=gtR
 intro k ds h nx K hs
 have bor:∀ g ds' (x:Value),Pu Tryz.prog g ds' (.v x)→hookB ds' (.v x) ds h nx K=true→∃ d h' nx',AC1 Tryz.prog g ds (h.heap nx) d (h'.heap nx')∧K d h' nx'=true:=fun g ds' x hp hs=>by
  rcases ifB_true hs with ⟨h1,h2⟩|⟨_,h2⟩
  ·exact ⟨_,h,nx,AC1.borrow (retBs_rd _ _ _ h1) hp,h2⟩
  ·cases h2
 cases k with
 | yf id=>cases hs
 | fn g=>
  show ∃ d h' nx',AC1 Tryz.prog g ds (h.heap nx) d (h'.heap nx')∧K d h' nx'=true
  rcases ifB_true (show ifB _ _ _=true from hs) with ⟨hg,hs⟩|⟨_,hs⟩
  ·obtain rfl:=Nat.eq_of_beq_eq_true hg
   obtain ⟨d,h1,nx1,k1,k2⟩:=live_ok S hs
   rcases ifB_true k2 with ⟨h2,k2⟩|⟨_,h2⟩
   ·exact ⟨d,h1,190000,AC1.less k1 ⟨Nat.le_of_ble_eq_true h2,fun id box hg=>by rw [HT.heap_get] at hg ⊢;exact hg⟩,k2⟩
   ·cases h2
  rcases ifB_true hs with ⟨hg,hs⟩|⟨_,hs⟩
  ·obtain rfl:=Nat.eq_of_beq_eq_true hg
   exact bor _ _ _ V.chk hs
  rcases ifB_true hs with ⟨hg,hs⟩|⟨_,hs⟩
  ·obtain rfl:=Nat.eq_of_beq_eq_true hg
   exact bor _ _ _ V.str hs
  rcases ifB_true hs with ⟨hg,hs⟩|⟨_,hs⟩
  ·obtain rfl:=Nat.eq_of_beq_eq_true hg
   exact hookC_ok S V hs
  ·exact live_ok S hs
theorem valid_x {sp:FuncId→List D→Option D}(S:@SpOk gtR Tryz.prog sp){f:Nat}{cl:List Str}{rs:List Rul}{u:D}(V:VF cl rs u){k:Int}
  (h:funT gtR Tryz.prog (tiOf Tryz.prog) (hooked sp f cl rs u) 4 [i64 k] .emp 0 (fun d1 h1 _=>retB h1 100000 d1 (boo true))=true):@Pu gtR Tryz.prog 4 [i64 k] (boo true):=by
 letI:=gtR
 rw [funT_eq] at h
 obtain ⟨d1,h1,nx1,k1,k2⟩:=xfun_ok mixed T0 (hooked_ok S V) h
 exact Pu.of_ac rfl k1 (retB_rd _ _ _ k2)
noncomputable def spV (sp:FuncId→List D→Option D) (k:Int) (u:D) (g:FuncId) (ds:List D):Option D:=
 if Nat.beq g 19=true then (if eqDs ds [i64 k]=true then some u else none)
 else if Nat.beq g 23=true then (if eqDs ds [u]=true then some (boo true) else none)
 else if Nat.beq g 21=true then (if eqDs ds [u,u]=true then some (boo true) else none)
 else if Nat.beq g 18=true then (if eqDs ds []=true then some (boo true) else none)
 else sp g ds
theorem spV_ok {sp:FuncId→List D→Option D}(S:@SpOk gtR Tryz.prog sp){k:Int}{u:D}(h1:@Pu gtR Tryz.prog 19 [i64 k] u) (h2:@Pu gtR Tryz.prog 23 [u] (boo true)) (h3:@Pu gtR Tryz.prog 21 [u,u] (boo true)) (h4:@Pu gtR Tryz.prog 18 [] (boo true)):@SpOk gtR Tryz.prog (spV sp k u):=fun g ds d hd=>by
 letI:=gtR
 unfold spV at hd
 split at hd
 ·rename_i hg
  obtain rfl:=Nat.eq_of_beq_eq_true hg
  split at hd
  ·rename_i he
   injection hd with hd;subst hd
   rw [eqDs_eq _ _ he];exact h1
  ·cases hd
 split at hd
 ·rename_i hg
  obtain rfl:=Nat.eq_of_beq_eq_true hg
  split at hd
  ·rename_i he
   injection hd with hd;subst hd
   rw [eqDs_eq _ _ he];exact h2
  ·cases hd
 split at hd
 ·rename_i hg
  obtain rfl:=Nat.eq_of_beq_eq_true hg
  split at hd
  ·rename_i he
   injection hd with hd;subst hd
   rw [eqDs_eq _ _ he];exact h3
  ·cases hd
 split at hd
 ·rename_i hg
  obtain rfl:=Nat.eq_of_beq_eq_true hg
  split at hd
  ·rename_i he
   injection hd with hd;subst hd
   rw [eqDs_eq _ _ he];exact h4
  ·cases hd
 ·exact S _ _ _ hd
end Go.Proofs.YtbjngeioomjklaaGreatDoor
namespace Go.Proofs.YtbjngeioomjklaaGreatDoor
open Go Go.Am
set_option maxRecDepth 1000000
theorem chk1:@Pu gtR Tryz.prog 22 [.agg [strs cl1,lstS rulC rs1]] (i64 0):=run_x (by kernel_rfl) (by kernel_rfl)
theorem vtab1:@Pu gtR Tryz.prog 23 [tblD (tbl cl1 (rs1.map (·.act)) LN1 LM1 RN1 RM1)] (boo true):=run_x (by kernel_rfl) (by kernel_rfl)
theorem same1:@Pu gtR Tryz.prog 21 [tblD (tbl cl1 (rs1.map (·.act)) LN1 LM1 RN1 RM1),tblD (tbl cl1 (rs1.map (·.act)) LN1 LM1 RN1 RM1)] (boo true):=run_x (by kernel_rfl) (by kernel_rfl)
theorem vf1:VF cl1 rs1 (tblD (tbl cl1 (rs1.map (·.act)) LN1 LM1 RN1 RM1)):=by
 letI:=gtR
 refine ⟨chk1,tx1.str,fun bs L2 dc dr N2 H3 h1 h2 h3 h4 h5 h6=>?_⟩
 rw [← tbl_D]
 exact compile_c (F:=3000) (by omega) (by decide) (by decide) (by decide) (by decide) comp1 h1 h2 h3 h4 h5 h6
theorem valid1:@Pu gtR Tryz.prog 4 [i64 1] (boo true):=valid_x (f:=1000) (spV_ok spC_ok kind1.tab vtab1 same1 awake_c) vf1 (by kernel_rfl)
end Go.Proofs.YtbjngeioomjklaaGreatDoor
