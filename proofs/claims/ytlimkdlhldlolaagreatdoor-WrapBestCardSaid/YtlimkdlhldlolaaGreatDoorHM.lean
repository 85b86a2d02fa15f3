/-
  The table of the kind Lines; the example at the head of the statements.
-/
import Derived.Test.YtlimkdlhldlolaaGreatDoorT4
import Derived.Test.YtlimkdlhldlolaaGreatDoorV0
set_option linter.unusedSectionVars false
namespace Go.Proofs.YtlimkdlhldlolaaGreatDoor
set_option maxRecDepth 1000000
section
open Go Go.Am
def t4:Tbl:=tbl cl4 (rs4.map (·.act)) LN4 LM4 RN4 RM4
theorem D9:@Pu gtR Tryz.prog 54 [i64 4] (gQ t4):=by
 letI:=gtR;rw[t4,<-sw];exact Aj (.inr (.inr (.inr ⟨rfl,rfl⟩))) Ho (F:=3000) om (by decide) (by decide) (by decide) (by decide) comp4
theorem nv4:NV cl4:=@JU gtR _ (by kernel_rfl)
theorem tv4:TV t4/\t4.ok:=by
 letI:=gtR;exact JN (LN:=LN4) (LM:=LM4) (RN:=RN4) (RM:=RM4) nv4 (acts:=rs4.map (·.act)) (by kernel_rfl) (by kernel_rfl) (by kernel_rfl)
theorem Eb:@Pu gtR Tryz.prog 65 [i64 4] (strs cl4):=by
 letI:=gtR;exact Pu.of_t aB T0 eZ rfl (by kernel_rfl:cK gtR Tryz.prog (ci Tryz.prog) spC 100 (.fn 65) [i64 4] .emp 0 (λd1 h1 _=>cQ h1 100000 d1 (strs cl4))=true)
abbrev tabR:D:=.agg [strs cl4,aC (rs4.map (·.act)),bN LN4,bN LM4,bN RN4,bN RM4]
noncomputable def spT (g:FuncId) (ds:List D):Option D:=
 if Nat.beq g 54=true then
  match ds with
  | [.v (.int .i64 (.ofNat 4))]=>some tabR
  | _=>none
 else spC g ds
theorem spT_ok:@mg gtR Tryz.prog spT:=λg ds d h=>by
 letI:=gtR;unfold spT at h;split at h
 .rename_i hg;obtain rfl:=Nat.eq_of_beq_eq_true hg;split at h
  .injection h with h;subst h
   have:=D9
   rw[t4,<-sw] at this;exact this
  .cases h
 .exact eZ g ds d h
end
section
open Go Go.Am
section
variable [GT]
end
noncomputable def spV (g:FuncId) (ds:List D):Option D:=
 if Nat.beq g 79=true then(if nW ds [tabR]=true then some (boo true) else none) else spT g ds
open Classical in
theorem valid4:@Pu gtR Tryz.prog 79 [tabR] (boo true):=by
 letI:=gtR;have h:=lA (t:=t4) tv4.2;rw[decide_eq_true tv4.1,t4,<-sw] at h;exact h
theorem gS:@mg gtR Tryz.prog spV:=λg ds d h=>by
 letI:=gtR;unfold spV at h;split at h
 .rename_i hg;obtain rfl:=Nat.eq_of_beq_eq_true hg;split at h
  .rename_i he;injection h with h;subst h
   rw[e9 _ _ he];exact valid4
  .cases h
 .exact spT_ok g ds d h
end
end Go.Proofs.YtlimkdlhldlolaaGreatDoor
