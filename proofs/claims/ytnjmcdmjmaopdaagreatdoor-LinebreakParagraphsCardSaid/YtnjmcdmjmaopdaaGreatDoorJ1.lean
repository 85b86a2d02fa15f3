/-
  Contracts of functions over data: the actions at all positions of a text, by a database.
-/
import Derived.Test.YtnjmcdmjmaopdaaGreatDoorHI
import Derived.Test.YtnjmcdmjmaopdaaGreatDoorHE
import Derived.Test.YtnjmcdmjmaopdaaGreatDoorHM
set_option linter.unusedSectionVars false
namespace Go.Proofs.YtnjmcdmjmaopdaaGreatDoor
section
open Go Go.Am Classical
set_option maxRecDepth 100000
noncomputable instance gtI:GT:=gtR
theorem mw {p:Prp}{text:List Int}:(mB p t4 text).length=text.length+1:=by
 rw[mB,if_pos tv4.1,mv];simp[cd]
theorem Bw {d:Db}{text:List Int}(ho:d.ok) (hs:SmD d) (hv:DbV d) (hx:text.length≤1000):@Pu gtR Tryz.prog 12 [dbD d,aZ text] (.tup [aZ (mB d.lin t4 text),i64 0]):=by
 letI:=gtR;obtain⟨e,he,hi⟩:=sG ho hs;obtain rfl:=hi.2 hv;have hsm:=hs.2.1 6 (by omega);have hp:Pu Tryz.prog 27 [dbD d,i64 6] (iE d.lin):=Ei (fun k hk=>hs.2.1 k hk) 6 (by omega);have hA:=wY (p:=d.lin) (t:=t4) (text:=text) (ho.prop 6) tv4.2 (by have:=hsm.1;simp only[prop] at this;omega) (by have:=hsm.2;simp only[prop] at this;omega) hx;have hT:=FG;refine Pu.of_v aA T0 Tryz.func12 rfl rfl (by simp[aJ,aD,aG,aK,aP,aO,aM]) ?_;repeat' ((conv=>whnf)<;>(first|refine aB.go aA T0 ?_|exact kQ|(refine Br.mk (fun _=>?_) (fun _=>?_)<;>(try(exfalso;omega)))|refine stq ?_|refine Cll.pu (he) ?_|refine aN.pu (he) ?_|refine Cll.pu (hp) ?_|refine aN.pu (hp) ?_|refine Cll.pu (hT) ?_|refine aN.pu (hT) ?_|refine Cll.pu (hA) ?_|refine aN.pu (hA) ?_))
 all_goals(conv=>whnf)
 exact⟨Rd.eqd rfl (by simp[aJ,aD,aM])⟩
theorem EK {d:Db}{text:List Int}(ho:d.ok) (hs:SmD d) (hv:¬DbV d):@Pu gtR Tryz.prog 12 [dbD d,aZ text] (.tup [aY,i64 11]):=by
 letI:=gtR;obtain⟨e,he,hi⟩:=sG ho hs;have h0:e≠0:=fun h=>hv (hi.1 h)
 refine Pu.of_v aA T0 Tryz.func12 rfl rfl (by simp[aJ,aD,aG,aK,aP,aO,aM]) ?_;repeat' ((conv=>whnf)<;>(first|refine aB.go aA T0 ?_|exact kQ|(refine Br.mk (fun _=>?_) (fun _=>?_)<;>(try(exfalso;omega)))|refine stq ?_|refine Cll.pu (he) ?_))
 all_goals(conv=>whnf)
 exact⟨Rd.eqd rfl rfl⟩
end
section
open Go Go.Am Classical
set_option maxRecDepth 100000
theorem zK {d:Db}(ho:d.ok) (hs:SmD d):@Pu gtR Tryz.prog 9 [dbD d] (boo true):=by
 letI:=gtR;have h:=vW ho
 rwa [decide_eq_true hs] at h
theorem A3 {d:Db}(ho:d.ok) (hs:¬SmD d):@Pu gtR Tryz.prog 9 [dbD d] (boo false):=by
 letI:=gtR;have h:=vW ho
 rwa [decide_eq_false hs] at h
end
section
open Go Go.Am Classical
set_option maxRecDepth 100000
end
section
open Go Go.Am Classical
set_option maxRecDepth 100000
noncomputable abbrev nvL (d:Db) (text:List Int):List Int:=cd d.lin cl4 text
theorem D9 (d:Db) (text:List Int):(nvL d text).length=text.length:=by simp[cd]
theorem qN [GT] {h:aC}{fz:Nat→Bool}{σ:Nat→Option Nat}{id n cap:Nat}{b:List Int}{cs:List D}{ex bx:Bool}(hf:fz id=true) (hg:h.get id=some (.cells cs bx)) (ec:cs=b.map i64) (e:n=b.length):Rd h fz σ (.sl id 0 n cap 1 ex) (aZ b):=by
 subst e;subst ec;refine .frz hf hg (by simp) (.eqs ?_ (aa (fun _=>rfl) _));rw[List.drop_zero,kE (by simp)]
end
end Go.Proofs.YtnjmcdmjmaopdaaGreatDoor
