/-
  The statement StandardTexts, over data.
-/
import Derived.Test.YtbjngeioomjklaaGreatDoorM1
import Derived.Test.YtbjngeioomjklaaGreatDoorM2
import Derived.Test.YtbjngeioomjklaaGreatDoorM4
import Derived.Test.YtbjngeioomjklaaGreatDoorT1
namespace Go.Proofs.YtbjngeioomjklaaGreatDoor
open Go Go.Am Classical
set_option maxRecDepth 100000
set_option linter.unusedSectionVars false
structure Tx (k:Int) (cl:List Str) (rs:List Rul) (text:Str):Prop where
 scl:@Pu gtR Tryz.prog 11 [i64 k] (strs cl)
 rcl:@Pu gtR Tryz.prog 12 [i64 k] (strs cl)
 str:@Pu gtR Tryz.prog 10 [strs cl,strs cl] (boo true)
 sru:@Pu gtR Tryz.prog 13 [i64 k] (.str text)
 rru:@Pu gtR Tryz.prog 14 [i64 k] (.str text)
 spa:@Pu gtR Tryz.prog 16 [i64 k] (.agg [strs cl,lstS rulC rs])
 rpa:@Pu gtR Tryz.prog 17 [i64 k] (.agg [strs cl,lstS rulC rs])
 same:@Pu gtR Tryz.prog 15 [.agg [strs cl,lstS rulC rs],.agg [strs cl,lstS rulC rs]] (boo true)
theorem run_x {g:FuncId}{ds:List D}{d:D}(hn:noBoxs ds=true) (h:callT gtR Tryz.prog (tiOf Tryz.prog) spC 1000 (.fn g) ds .emp 0 (fun d1 h1 _=>retB h1 100000 d1 d)=true):@Pu gtR Tryz.prog g ds d:=by
 letI:=gtR
 exact Pu.of_t mixed T0 spC_ok hn h
theorem noBox_rules (cl:List Str) (rs:List Rul):noBox (.agg [strs cl,lstS rulC rs])=true:=by
 letI:=gtR
 simp [noBox,noBoxs,noBox_strs,noBox_ruls]
theorem rparsed_c {k:Int}(hk:1≤k∧k≤4){cl:List Str}{rs:List Rul}{text:Str}(h1:@Pu gtR Tryz.prog 12 [i64 k] (strs cl)) (h2:@Pu gtR Tryz.prog 14 [i64 k] (.str text)) (h3:@Pu gtR Tryz.prog 33 [strs cl,.str text] (.tup [.agg [strs cl,lstS rulC rs],.agg [i64 0,i64 0]])) :
  @Pu gtR Tryz.prog 17 [i64 k] (.agg [strs cl,lstS rulC rs]):=by
 letI:=gtR
 refine Pu.of_v mixed T0 Tryz.func17 rfl rfl rfl ?_
 repeat' ((conv=>whnf) <;> (first|refine SeqV.go mixed T0 ?_|exact True.intro|(refine Br.mk (fun _=>?_) (fun _=>?_) <;> (try (exfalso;omega)))|refine stq ?_|(refine Cll.dec (known_c (k:=k)) (fun _=>?_) (fun _=>?_) <;> (try (exfalso;omega)))|refine Cll.pu h1 ?_|refine Cll.pu h2 ?_|refine Cll.pu h3 ?_|fail))
 all_goals (conv=>whnf)
 exact RetV.same (noBox_rules _ _) rfl
theorem Tx.mk' {k:Int}(hk:1≤k∧k≤4){j:Nat}{cl:List Str}{rs:List Rul}{text:Str}(hp:Parses k j cl rs) (h3:@Pu gtR Tryz.prog 33 [strs cl,.str text] (.tup [.agg [strs cl,lstS rulC rs],.agg [i64 0,i64 0]]))
  (a1:callT gtR Tryz.prog (tiOf Tryz.prog) spC 1000 (.fn 11) [i64 k] .emp 0 (fun d1 h1 _=>retB h1 100000 d1 (strs cl))=true)
  (a2:callT gtR Tryz.prog (tiOf Tryz.prog) spC 1000 (.fn 12) [i64 k] .emp 0 (fun d1 h1 _=>retB h1 100000 d1 (strs cl))=true)
  (a3:callT gtR Tryz.prog (tiOf Tryz.prog) spC 1000 (.fn 10) [strs cl,strs cl] .emp 0 (fun d1 h1 _=>retB h1 100000 d1 (boo true))=true)
  (a4:callT gtR Tryz.prog (tiOf Tryz.prog) spC 1000 (.fn 13) [i64 k] .emp 0 (fun d1 h1 _=>retB h1 100000 d1 (.str text))=true)
  (a5:callT gtR Tryz.prog (tiOf Tryz.prog) spC 1000 (.fn 14) [i64 k] .emp 0 (fun d1 h1 _=>retB h1 100000 d1 (.str text))=true)
  (a6:callT gtR Tryz.prog (tiOf Tryz.prog) spC 1000 (.fn 15) [.agg [strs cl,lstS rulC rs],.agg [strs cl,lstS rulC rs]] .emp 0 (fun d1 h1 _=>retB h1 100000 d1 (boo true))=true):Tx k cl rs text:=by
 letI:=gtR
 have r2:=run_x rfl a2
 have r5:=run_x rfl a5
 exact ⟨run_x rfl a1,r2,run_x (by simp [noBoxs,noBox_strs]) a3,run_x rfl a4,r5,hp.pu,rparsed_c hk r2 r5 h3,run_x (by simp [noBoxs,noBox_rules]) a6⟩
theorem tx1:Tx 1 cl1 rs1 text1:=Tx.mk' (by omega) parses1 rparse1 (by kernel_rfl) (by kernel_rfl) (by kernel_rfl) (by kernel_rfl) (by kernel_rfl) (by kernel_rfl)
theorem tx2:Tx 2 cl2 rs2 text2:=Tx.mk' (by omega) parses2 rparse2 (by kernel_rfl) (by kernel_rfl) (by kernel_rfl) (by kernel_rfl) (by kernel_rfl) (by kernel_rfl)
theorem tx3:Tx 3 cl3 rs3 text3:=Tx.mk' (by omega) parses3 rparse3 (by kernel_rfl) (by kernel_rfl) (by kernel_rfl) (by kernel_rfl) (by kernel_rfl) (by kernel_rfl)
theorem tx4:Tx 4 cl4 rs4 text4:=Tx.mk' (by omega) parses4 rparse4 (by kernel_rfl) (by kernel_rfl) (by kernel_rfl) (by kernel_rfl) (by kernel_rfl) (by kernel_rfl)
section
variable [GT]
theorem sru_no {k:Int}(hk:¬ (1≤k∧k≤4)):Pu Tryz.prog 13 [i64 k] (.str []):=by
 refine Pu.of_v mixed T0 Tryz.func13 rfl rfl rfl ?_
 repeat' ((conv=>whnf) <;> (first|refine SeqV.go mixed T0 ?_|exact True.intro|(refine Br.mk (fun _=>?_) (fun _=>?_) <;> (try (exfalso;omega)))|refine stq ?_))
 all_goals (conv=>whnf)
 all_goals exact RetV.same rfl rfl
theorem spa_no {k:Int}(hk:¬ (1≤k∧k≤4)):Pu Tryz.prog 16 [i64 k] (.agg [strs [],lstS rulC []]):=by
 refine Pu.of_v mixed T0 Tryz.func16 rfl rfl rfl ?_
 repeat' ((conv=>whnf) <;> (first|refine Br.mk (fun _=>?_) (fun hne=>absurd rfl hne)|refine SeqV.go mixed T0 ?_|exact True.intro|(refine Br.mk (fun _=>?_) (fun _=>?_) <;> (try (exfalso;omega)))|refine stq ?_|refine Cll.pu (sru_no hk) ?_|fail))
 all_goals (conv=>whnf)
 exact ⟨.agg (.cons .nil (.cons .nil .nil))⟩
theorem rpa_no {k:Int}(hk:¬ (1≤k∧k≤4)):Pu Tryz.prog 17 [i64 k] (.agg [strs [],lstS rulC []]):=by
 refine Pu.of_v mixed T0 Tryz.func17 rfl rfl rfl ?_
 repeat' ((conv=>whnf) <;> (first|refine SeqV.go mixed T0 ?_|exact True.intro|(refine Br.mk (fun _=>?_) (fun _=>?_) <;> (try (exfalso;omega)))|refine stq ?_|(refine Cll.dec (known_c (k:=k)) (fun _=>?_) (fun _=>?_) <;> (try contradiction))|fail))
 all_goals (conv=>whnf)
 exact ⟨.agg (.cons .nil (.cons .nil .nil))⟩
end
theorem tab_no [GT] {k:Int}(hk:¬ (1≤k∧k≤4)):Pu Tryz.prog 19 [i64 k] (tblD (tbl [] [] [] [] [] [])):=by
 refine Pu.of_v mixed T0 Tryz.func19 rfl rfl rfl ?_
 repeat' ((conv=>whnf) <;> (first|refine SeqV.go mixed T0 ?_|exact True.intro|(refine Br.mk (fun _=>?_) (fun _=>?_) <;> (try (exfalso;omega)))|refine stq ?_|fail))
 all_goals (conv=>whnf)
 all_goals exact ⟨.agg (.cons .nil (.cons .nil (.cons .nil (.cons .nil (.cons .nil (.cons .nil .nil))))))⟩
end Go.Proofs.YtbjngeioomjklaaGreatDoor
