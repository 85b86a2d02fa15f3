/-
  The example at the head of the statements of layer 33.
-/
import Derived.Test.YtbmdndckndnehaaGreatDoorL3
import Derived.Test.YtbmdndckndnehaaGreatDoorV0
set_option linter.unusedSectionVars false
namespace Go.Proofs.YtbmdndckndnehaaGreatDoor
section
open Go Go.Am
set_option maxRecDepth 1000000
theorem xL6.rdX {p:Prop}(h:p:=by first|exact eT rfl rfl rfl rfl|exact Rd.eqd rfl hdb|fail):p:=h
open xL6
abbrev FB:Prp:=⟨[[79,116,104,101,114]],[]⟩
abbrev mJ:D:=.agg [strs cl1,aD (rs1.map (·.act)),bU LN1,bU LM1,bU RN1,bU RM1]
noncomputable def Ed (g:FuncId) (ds:List D):Option D:=
 if Nat.beq g 80=true then(if o9 ds [mJ]=true then some (boo true) else none) else spC g ds
open Classical in
theorem valid1:@Pu gtR Tryz.prog 80 [mJ] (boo true):=by
 letI:=gtR;have h:=nH (t:=t1) tv1.2;rw[decide_eq_true tv1.1,t1,<-EL] at h;exact h
theorem vR:@qf gtR Tryz.prog Ed:=λg ds d h=>by
 letI:=gtR;unfold Ed at h;split at h
 ·rename_i hg;obtain rfl:=Nat.eq_of_beq_eq_true hg;split at h
  ·rename_i he;injection h with h;subst h
   rw[fa _ _ he];exact valid1
  ·cases h
 ·exact iO g ds d h
theorem Bo {l:List Int}(h:l.length<=1000):@Pu gtR Tryz.prog 16 [aD l,aD l] (boo true):=by
 have:=@JD gtR l l om
 rwa [decide_eq_true rfl] at this
end
section
open Go Go.Am Classical
set_option maxRecDepth 100000
noncomputable abbrev gP (d:Db) (text:List Int):List Rng:=kc (prop d 3) t1 text
theorem Good.p1 {d:Db}(h:Good d){text:List Int}(hx:text.length<=1000):@Pu gtR Tryz.prog 17 [dbD d,i64 1,aD text] (.tup [a7 (gP d text),i64 0]):=h.prt (k:=1) (.inl rfl) tv1.2 JO hx
theorem bad1 {d:Db}{k:Int}{x:D}(ho:d.ok) (hs:SmD d) (hv:¬DbV d) (hx:aN x=true):@Pu gtR Tryz.prog 17 [dbD d,i64 k,x] (.tup [aJ,i64 11]):=Iu hx (by decide) (GL ho hs hv)
theorem gu (d:Db) (text:List Int):Chn 0 (gP d text) text.length:=BJ tv1.1
end
end Go.Proofs.YtbmdndckndnehaaGreatDoor
