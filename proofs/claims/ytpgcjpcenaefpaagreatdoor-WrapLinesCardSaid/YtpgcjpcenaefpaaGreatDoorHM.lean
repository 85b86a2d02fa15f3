/-
  The table of the kind Lines; the example at the head of the statements.
-/
import Derived.Test.YtpgcjpcenaefpaaGreatDoorT4
import Derived.Test.YtpgcjpcenaefpaaGreatDoorV0
set_option linter.unusedSectionVars false
namespace Go.Proofs.YtpgcjpcenaefpaaGreatDoor
section
open Go Go.Am
set_option maxRecDepth 1000000
def t4:Tbl:=tbl cl4 (rs4.map (·.act)) LN4 LM4 RN4 RM4
theorem Dn:@Pu gtR Tryz.prog 60 [i64 4] (gQ t4):=by
 letI:=gtR;rw[t4,<-sa];exact AU (.inr (.inr (.inr ⟨rfl,rfl⟩))) HN (F:=3000) om (by decide) (by decide) (by decide) (by decide) comp4
theorem nv4:NV cl4:=@Ix gtR _ (by kernel_rfl)
theorem tv4:TV t4/\t4.ok:=by
 letI:=gtR;exact Iq (LN:=LN4) (LM:=LM4) (RN:=RN4) (RM:=RM4) nv4 (acts:=rs4.map (·.act)) (by kernel_rfl) (by kernel_rfl) (by kernel_rfl)
theorem EC:@Pu gtR Tryz.prog 96 [i64 4] (strs cl4):=by
 letI:=gtR;exact Pu.of_t aB T0 eU rfl (by kernel_rfl:cH gtR Tryz.prog (cg Tryz.prog) spC 100 (.fn 96) [i64 4] .emp 0 (λd1 h1 _=>cN h1 100000 d1 (strs cl4))=true)
abbrev tabR:D:=.agg [strs cl4,aD (rs4.map (·.act)),bL LN4,bL LM4,bL RN4,bL RM4]
noncomputable def spT (g:FuncId) (ds:List D):Option D:=
 if Nat.beq g 60=true then
  match ds with
  | [.v (.int .i64 (.ofNat 4))]=>some tabR
  | _=>none
 else spC g ds
theorem spT_ok:@mX gtR Tryz.prog spT:=λg ds d h=>by
 letI:=gtR;unfold spT at h;split at h
 .rename_i hg;obtain rfl:=Nat.eq_of_beq_eq_true hg;split at h
  .injection h with h;subst h
   have:=Dn
   rw[t4,<-sa] at this;exact this
  .cases h
 .exact eU g ds d h
end
section
open Go Go.Am
set_option maxRecDepth 1000000
section
variable [GT]
end
noncomputable def spV (g:FuncId) (ds:List D):Option D:=
 if Nat.beq g 80=true then(if nN ds [tabR]=true then some (boo true) else none) else spT g ds
open Classical in
theorem valid4:@Pu gtR Tryz.prog 80 [tabR] (boo true):=by
 letI:=gtR;have h:=kr (t:=t4) tv4.2;rw[decide_eq_true tv4.1,t4,<-sa] at h;exact h
theorem gS:@mX gtR Tryz.prog spV:=λg ds d h=>by
 letI:=gtR;unfold spV at h;split at h
 .rename_i hg;obtain rfl:=Nat.eq_of_beq_eq_true hg;split at h
  .rename_i he;injection h with h;subst h
   rw[ep _ _ he];exact valid4
  .cases h
 .exact spT_ok g ds d h
end
end Go.Proofs.YtpgcjpcenaefpaaGreatDoor
