/-
  The table of the kind Lines; the example at the head of the statements.
-/
import Derived.Test.YtnjmcdmjmaopdaaGreatDoorT4
import Derived.Test.YtnjmcdmjmaopdaaGreatDoorV0
set_option linter.unusedSectionVars false
namespace Go.Proofs.YtnjmcdmjmaopdaaGreatDoor
section
open Go Go.Am
set_option maxRecDepth 1000000
def t4:Tbl:=tbl cl4 (rs4.map (·.act)) LN4 LM4 RN4 RM4
theorem FG:@Pu gtR Tryz.prog 25 [i64 4] (qr t4):=by
 letI:=gtR;rw[t4,←Al];exact Dc (.inr (.inr (.inr ⟨rfl,rfl⟩))) Dz (F:=3000) (by omega) (by decide) (by decide) (by decide) (by decide) comp4
theorem nv4:NV cl4:=@nv_of gtR _ (by kernel_rfl)
theorem tv4:TV t4∧t4.ok:=by
 letI:=gtR;exact tv_of (LN:=LN4) (LM:=LM4) (RN:=RN4) (RM:=RM4) nv4 (acts:=rs4.map (·.act)) (by kernel_rfl) (by kernel_rfl) (by kernel_rfl)
theorem FL:@Pu gtR Tryz.prog 48 [i64 4] (strs cl4):=by
 letI:=gtR;exact Pu.of_t aA T0 jn rfl (by kernel_rfl:iq gtR Tryz.prog (jm Tryz.prog) spC 100 (.fn 48) [i64 4] .emp 0 (fun d1 h1 _=>fU h1 100000 d1 (strs cl4))=true)
abbrev tabR:D:=.agg [strs cl4,aZ (rs4.map (·.act)),bn LN4,bn LM4,bn RN4,bn RM4]
noncomputable def spT (g:FuncId) (ds:List D):Option D:=
 if Nat.beq g 25=true then
  match ds with
  | [.v (.int .i64 (.ofNat 4))]=>some tabR
  | _=>none
 else spC g ds
theorem spT_ok:@my gtR Tryz.prog spT:=fun g ds d h=>by
 letI:=gtR;unfold spT at h;split at h
 ·rename_i hg;obtain rfl:=Nat.eq_of_beq_eq_true hg;split at h
  ·injection h with h;subst h
   have:=FG
   rw[t4,←Al] at this;exact this
  ·cases h
 ·exact jn g ds d h
end
section
open Go Go.Am
set_option maxRecDepth 1000000
section
variable [GT]
end
noncomputable def spV (g:FuncId) (ds:List D):Option D:=
 if Nat.beq g 38=true then(if nf ds [tabR]=true then some (boo true) else none) else spT g ds
open Classical in
theorem valid4:@Pu gtR Tryz.prog 38 [tabR] (boo true):=by
 letI:=gtR;have h:=i7 (t:=t4) tv4.2;rw[decide_eq_true tv4.1,t4,←Al] at h;exact h
theorem spV_ok:@my gtR Tryz.prog spV:=fun g ds d h=>by
 letI:=gtR;unfold spV at h;split at h
 ·rename_i hg;obtain rfl:=Nat.eq_of_beq_eq_true hg;split at h
  ·rename_i he;injection h with h;subst h
   rw[fL _ _ he];exact valid4
  ·cases h
 ·exact spT_ok g ds d h
theorem E1:@Pu gtR Tryz.prog 5 [] (boo true):=by
 letI:=gtR;exact Pu.of_t aA T0 spV_ok rfl (by kernel_rfl:iq gtR Tryz.prog (jm Tryz.prog) spV 1000 (.fn 5) [] .emp 0 (fun d1 h1 _=>fU h1 100000 d1 (boo true))=true)
end
end Go.Proofs.YtnjmcdmjmaopdaaGreatDoor
