/-
  The statement StandardDecides, over data.
-/
import Derived.Test.YtbjngeioomjklaaGreatDoorY1
import Derived.Test.YtbjngeioomjklaaGreatDoorY4
import Derived.Test.YtbjngeioomjklaaGreatDoorK1
import Derived.Test.YtbjngeioomjklaaGreatDoorW2
namespace Go.Proofs.YtbjngeioomjklaaGreatDoor
open Go Go.Am Classical
set_option maxRecDepth 100000
set_option linter.unusedSectionVars false
section
variable [GT]
theorem bDecide_no {t:Tbl}{l:List Int}{k:Nat}(ht:t.ok) (hx:l.length≤1000) (hno:¬ okL t l):Pu Tryz.prog 25 [tblD t,ints l,i64 (k:Int)] (.tup [i64 2,i64 (-1)]):=by
 have hL:=Left_c ht hx
 have hR:=Right_c ht hx
 rw [if_neg hno] at hL hR
 refine Pu.of_v mixed T0 Tryz.func25 rfl rfl (by simp [noBox,noBoxs,noBox_intss,noBox_ints,noBox_strs]) ?_
 repeat' ((conv=>whnf) <;> (first|refine SeqV.go mixed T0 ?_|exact True.intro|(refine Br.mk (fun _=>?_) (fun _=>?_) <;> (try (exfalso;omega)))|refine stq ?_|refine DrawV.by (id:=1) mixed T0 [0,0,3,0,0,31,63,127] (by kernel_rfl) ?_|refine Cal0.pu hL ?_|refine Cal0.pu hR ?_|fail))
 all_goals (conv=>whnf)
 all_goals first
  | exact RetV.same rfl rfl
  | (exfalso;rename_i h;apply h;show (0:Int)≤k;omega)
end
def Alike (cl:List Str) (rs:List Rul) (t:Tbl):Prop:=∀ (l:List Int) (k:Nat),l.length≤20→k≤l.length→∃ a i:Int,@Pu gtR Tryz.prog 25 [tblD t,ints l,i64 (k:Int)] (.tup [i64 a,i64 i])∧@Pu gtR Tryz.prog 26 [.agg [strs cl,lstS rulC rs],ints l,i64 (k:Int)] (.tup [i64 a,i64 i])
theorem alike_k {k:Int}{cl:List Str}{rs:List Rul}{LN LM RN RM:List (List Nat)}{cr lf:Nat}(K:Kd4 k cl (rs.map (·.act)) LN LM RN RM cr lf) (W:Law cl.length rs LN LM RN RM) (hC:@Pu gtR Tryz.prog 22 [.agg [strs cl,lstS rulC rs]] (i64 0)) (hok:rs.all (fun r=>okP r.left && okP r.right)=true) (hcl:cl.length≤1000) (hrs:rs.length≤1000):Alike cl rs (tbl cl (rs.map (·.act)) LN LM RN RM):=by
 letI:=gtR
 intro l m hl hm
 by_cases hc:CL l cl.length
 ·have hokL:okL (tbl cl (rs.map (·.act)) LN LM RN RM) l:=⟨hc,K.tv⟩
  obtain ⟨q,q1,q2,q3⟩:=dec_law W hc hm
  have h1:=bDecide_c (k:=m) K.ok (by omega) hokL hm
  have h2:=rDecide_c hC (fun r hr=>by
   have:=List.all_eq_true.1 hok r hr
   simp only [Bool.and_eq_true] at this
   exact ⟨ends_c _ this.1,ends_c _ this.2⟩) hcl hrs (by omega) hc hm q1
  have e1:decA (tbl cl (rs.map (·.act)) LN LM RN RM) (decO (tbl cl (rs.map (·.act)) LN LM RN RM) (stL (tbl cl (rs.map (·.act)) LN LM RN RM).left.next l m) (stR (tbl cl (rs.map (·.act)) LN LM RN RM).right.next l (l.length - m)))=actR rs q:=q2
  have e2:decI (decO (tbl cl (rs.map (·.act)) LN LM RN RM) (stL (tbl cl (rs.map (·.act)) LN LM RN RM).left.next l m) (stR (tbl cl (rs.map (·.act)) LN LM RN RM).right.next l (l.length - m)))=idxR q:=q3
  rw [e1,e2] at h1
  exact ⟨_,_,h1,h2⟩
 ·have h1:=bDecide_no (k:=m) K.ok (l:=l) (by omega) (fun h=>hc h.1)
  have h2:=rDecide_no (e:=0) hC (l:=l) (by omega) hm (.inr hc)
  exact ⟨_,_,h1,h2⟩
theorem decides_k {k:Int}{cl:List Str}{rs:List Rul}{t:Tbl}(hp:@Pu gtR Tryz.prog 17 [i64 k] (.agg [strs cl,lstS rulC rs])) (ht:@Pu gtR Tryz.prog 19 [i64 k] (tblD t)) (A:Alike cl rs t){l:List Int}:@Pu gtR Tryz.prog 5 [i64 k,ints l] (boo true):=by
 letI:=gtR
 refine Pu.of_v mixed T0 Tryz.func5 rfl rfl (by simp [noBoxs,noBox,noBox_ints]) ?_
 by_cases h20:l.length≤20
 ·repeat' ((conv=>whnf) <;> (first|refine SeqV.go mixed T0 ?_|exact True.intro|(refine Br.mk (fun _=>?_) (fun _=>?_) <;> (try (exfalso;omega)))|refine stq ?_|refine Cll.pu hp ?_|refine Cll.pu ht ?_|fail))
  refine LoopV.by mixed T0 (fun m:Nat=>⟨tmp 49 [(1,ints l),(5,.ptr 0 0),(6,.ptr 1 0),(7,i64 (m:Int))],⟨2,[(0,.cells [strs cl,lstS rulC rs] true),(1,.cells [strs t.classes,ints t.actions,intss t.left.next,intss t.left.marks,intss t.right.next,intss t.right.marks] true)]⟩⟩)
   (fun m=>m≤l.length+1) (fun m=>l.length+1 - m) 0 (by omega) ?_ ?_
  ·exact Lf.of2 [(0,_),(1,_)] [] enA (by (repeat (first|exact Bxs.nil|refine Bxs.cons rfl rfl rfl (by first|exact Rb.cells (Rds.same (noBoxs_rl _ _)) rfl|exact rbB|exact Rb.cells rdsA rfl|exact rbC|fail) ?_|fail));(first|done|fail)) rfl rfl
  intro m h4
  by_cases hm:m≤l.length
  ·obtain ⟨a,i,h1,h2⟩:=A l m h20 hm
   repeat' ((conv=>whnf) <;> (first|refine SeqV.go mixed T0 ?_|exact True.intro|(refine Br.mk (fun _=>?_) (fun _=>?_) <;> (try (exfalso;omega)))|refine stq ?_|refine Cll.pu h1 ?_|refine Cll.pu h2 ?_|fail))
   all_goals (conv=>whnf)
   all_goals first
    | contradiction
    | (refine ⟨m+1,by omega,by omega,?_⟩
       exact Lf.of2 [(0,_),(1,_)] [] enA (by (repeat (first|exact Bxs.nil|refine Bxs.cons rfl rfl rfl (by first|exact Rb.cells (Rds.same (noBoxs_rl _ _)) rfl|exact rbB|exact Rb.cells rdsA rfl|exact rbC|fail) ?_|fail));(first|done|fail)) rfl rfl)
  ·repeat' ((conv=>whnf) <;> (first|refine SeqV.go mixed T0 ?_|exact True.intro|(refine Br.mk (fun _=>?_) (fun _=>?_) <;> (try (exfalso;omega)))|refine stq ?_|refine Cll.pu awake_c ?_|fail))
   all_goals (conv=>whnf)
   exact RetV.same rfl rfl
 ·repeat' ((conv=>whnf) <;> (first|refine SeqV.go mixed T0 ?_|exact True.intro|(refine Br.mk (fun _=>?_) (fun _=>?_) <;> (try (exfalso;omega)))|refine stq ?_|refine Cll.pu awake_c ?_|fail))
  all_goals (conv=>whnf)
  exact RetV.same rfl rfl
theorem atm0:Atm.ok ⟨toII [],toII []⟩:=⟨Nat.zero_le _,Nat.zero_le _,fun _ hi=>absurd hi (Nat.not_lt_zero _),fun _ hi=>absurd hi (Nat.not_lt_zero _)⟩
theorem alike_no:Alike [] [] (tbl [] [] [] [] [] []):=by
 letI:=gtR
 intro l m hl hm
 have hC:Pu Tryz.prog 22 [.agg [strs [],lstS rulC []]] (i64 ((6:Nat):Int)):=run_x rfl (by kernel_rfl)
 have h1:=bDecide_no (t:=tbl [] [] [] [] [] []) (k:=m) (l:=l) ⟨Nat.zero_le _,fun _ hi=>absurd hi (Nat.not_lt_zero _),Nat.zero_le _,atm0,atm0⟩ (by omega) (fun h=>by have:=h.2.1.1;simp [tbl] at this)
 have h2:=rDecide_no (e:=6) hC (l:=l) (by omega) hm (.inl (by decide))
 exact ⟨_,_,h1,h2⟩
theorem decides_c {k:Int}{l:List Int}:@Pu gtR Tryz.prog 5 [i64 k,ints l] (boo true):=by
 by_cases hk:1≤k∧k≤4
 ·have h4:k=1∨k=2∨k=3∨k=4:=by omega
  rcases h4 with rfl|rfl|rfl|rfl
  ·exact decides_k tx1.rpa kind1.tab (alike_k kind1 law1 (run_x (by letI:=gtR;simp [noBoxs,noBox_rules]) (by kernel_rfl)) (by kernel_rfl) (by decide) (by decide))
  ·exact decides_k tx2.rpa kind2.tab (alike_k kind2 law2 (run_x (by letI:=gtR;simp [noBoxs,noBox_rules]) (by kernel_rfl)) (by kernel_rfl) (by decide) (by decide))
  ·exact decides_k tx3.rpa kind3.tab (alike_k kind3 law3 (run_x (by letI:=gtR;simp [noBoxs,noBox_rules]) (by kernel_rfl)) (by kernel_rfl) (by decide) (by decide))
  ·exact decides_k tx4.rpa kind4.tab (alike_k kind4 law4 (run_x (by letI:=gtR;simp [noBoxs,noBox_rules]) (by kernel_rfl)) (by kernel_rfl) (by decide) (by decide))
 ·letI:=gtR
  exact decides_k (rpa_no hk) (tab_no hk) alike_no
end Go.Proofs.YtbjngeioomjklaaGreatDoor
