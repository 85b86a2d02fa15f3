/-
  Contracts of functions over data: layer 33 (the program): the property and the table of a kind, boundaries and ranges of a text.
-/
import Derived.Test.YtjpgpihbhicinaaGreatDoorL0
import Derived.Test.YtjpgpihbhicinaaGreatDoorHI
import Derived.Test.YtjpgpihbhicinaaGreatDoorHE
import Derived.Test.YtjpgpihbhicinaaGreatDoorD0
set_option linter.unusedSectionVars false
namespace Go.Proofs.YtjpgpihbhicinaaGreatDoor
open Go Go.Am Classical
set_option maxRecDepth 100000
noncomputable instance gtI:GT:=gtR
theorem Fm {d:Db}{text:List Int}(ho:d.ok):@Pu gtR Tryz.prog 12 [dbD d,aQ text] (boo (decide (SmD d∧text.length<=12))):=by
 letI:=gtR;have h:=Cp ho;refine Pu.of_v aA T0 Tryz.func12 rfl rfl (by simp[aJ,aB,aE,aG,aN,aK,aF]) ?_;repeat' ((conv=>whnf)<;>(first|refine sg ?_|exact kQ|(refine Br.mk ?_ ?_<;>intro _<;>try(exfalso;omega))|refine stq ?_|refine Cll.dec (h) (fun _=>?_) (fun _=>?_)|refine aO.dec (h) (fun _=>?_) (fun _=>?_)))
 all_goals(conv=>whnf)
 all_goals first
  | exact aI.yes ⟨by assumption,by omega⟩
  | exact aI.no (fun hc=>by have:=hc.2;omega)
  | exact aI.no (fun hc=>by have:=hc.1;contradiction)
theorem y8 {d:Db}{text:List Int}(ho:d.ok) (hs:SmD d) (h:text.length<=12):@Pu gtR Tryz.prog 12 [dbD d,aQ text] (boo true):=by
 have:=Fm (text:=text) ho
 rwa [decide_eq_true ⟨hs,h⟩] at this
theorem Cf {d:Db}{text:List Int}(ho:d.ok) (h:¬(SmD d∧text.length<=12)):@Pu gtR Tryz.prog 12 [dbD d,aQ text] (boo false):=by
 have:=Fm (text:=text) ho
 rwa [decide_eq_false h] at this
abbrev EM:D:=.agg [aT,aT]
abbrev Dw:D:=.agg [aT,aT,aT,aT,aT,aT]
theorem wC {d:Db}{k:Nat}{t:Tbl}(hk:k=1∨k=2∨k=3∨k=4) (hl:∀ k,k<7->(prop d k).names.length<=30∧(prop d k).spans.length<=16) (he:@Pu gtR Tryz.prog 49 [dbD d] (i64 0)) (hT:@Pu gtR Tryz.prog 51 [i64 (k:Int)] (iC t)):@Pu gtR Tryz.prog 30 [dbD d,i64 (k:Int)] (.tup [du (prop d (k+2)),iC t,i64 0]):=by
 letI:=gtR;have hp:∀ j:Nat,j<7->Pu Tryz.prog 50 [dbD d,i64 (j:Int)] (du (prop d j)):=Ew hl;have hp3:Pu Tryz.prog 50 [dbD d,i64 3] (du (prop d 3)):=hp 3 (by omega);have hp4:Pu Tryz.prog 50 [dbD d,i64 4] (du (prop d 4)):=hp 4 (by omega);have hp5:Pu Tryz.prog 50 [dbD d,i64 5] (du (prop d 5)):=hp 5 (by omega);have hp6:Pu Tryz.prog 50 [dbD d,i64 6] (du (prop d 6)):=hp 6 (by omega);rcases hk with rfl|rfl|rfl|rfl
 all_goals
  refine Pu.of_v aA T0 Tryz.func30 rfl rfl (by simp[aJ,aB,aE,aG,aN,aK]) ?_;repeat' ((conv=>whnf)<;>(first|refine sg ?_|exact kQ|(refine Br.mk ?_ ?_<;>intro _<;>try(exfalso;omega))|refine stq ?_|refine Cll.pu (he) ?_|refine aO.pu (he) ?_|refine Cll.pu (hp3) ?_|refine aO.pu (hp3) ?_|refine Cll.pu (hp4) ?_|refine aO.pu (hp4) ?_|refine Cll.pu (hp5) ?_|refine aO.pu (hp5) ?_|refine Cll.pu (hp6) ?_|refine aO.pu (hp6) ?_|refine Cll.pu (hT) ?_|refine aO.pu (hT) ?_))
  all_goals(conv=>whnf)
  exact⟨Rd.eqd rfl (by simp[aJ,aB,aF,aE,aG,bz])⟩
theorem Cx {d:Db}{k:Int}(ho:d.ok) (hs:SmD d) (hv:¬DbV d):@Pu gtR Tryz.prog 30 [dbD d,i64 k] (.tup [EM,Dw,i64 11]):=by
 letI:=gtR;obtain⟨e,he,hi⟩:=sW ho hs;have h0:e≠0:=fun h=>hv (hi.1 h)
 refine Pu.of_v aA T0 Tryz.func30 rfl rfl (by simp[aJ,aB,aE,aG,aN,aK]) ?_;repeat' ((conv=>whnf)<;>(first|refine sg ?_|exact kQ|(refine Br.mk ?_ ?_<;>intro _<;>try(exfalso;omega))|refine stq ?_|refine Cll.pu (he) ?_))
 all_goals(conv=>whnf)
 exact⟨Rd.eqd rfl rfl⟩
theorem AZ {d:Db}{k:Int}(he:@Pu gtR Tryz.prog 49 [dbD d] (i64 0)) (hk:¬(1<=k∧k<=4)):@Pu gtR Tryz.prog 30 [dbD d,i64 k] (.tup [EM,Dw,i64 8]):=by
 letI:=gtR;refine Pu.of_v aA T0 Tryz.func30 rfl rfl (by simp[aJ,aB,aE,aG,aN,aK]) ?_;repeat' ((conv=>whnf)<;>(first|refine sg ?_|exact kQ|(refine Br.mk ?_ ?_<;>intro _<;>try(exfalso;omega))|refine stq ?_|refine Cll.pu (he) ?_))
 all_goals(conv=>whnf)
 exact⟨Rd.eqd rfl rfl⟩
structure Good (d:Db):Prop where
 ok:d.ok
 sm:SmD d
 va:DbV d
theorem Good.chk {d:Db}(h:Good d):@Pu gtR Tryz.prog 49 [dbD d] (i64 0):=by
 obtain⟨e,he,hi⟩:=@sW gtR d h.ok h.sm;obtain rfl:=hi.2 h.va;exact he
theorem Good.data {d:Db}(h:Good d){k:Nat}{t:Tbl}(hk:k=1∨k=2∨k=3∨k=4) (hT:@Pu gtR Tryz.prog 51 [i64 (k:Int)] (iC t)):@Pu gtR Tryz.prog 30 [dbD d,i64 (k:Int)] (.tup [du (prop d (k+2)),iC t,i64 0]):=wC hk (fun k hk=>h.sm.2.1 k hk) h.chk hT
theorem E7 {d:Db}{k e:Int}{x:D}(hx:aJ x=true) (h0:e≠0) (hd:@Pu gtR Tryz.prog 30 [dbD d,i64 k] (.tup [EM,Dw,i64 e])):@Pu gtR Tryz.prog 14 [dbD d,i64 k,x] (.tup [aT,i64 e]):=by
 letI:=gtR;refine Pu.of_v aA T0 Tryz.func14 rfl rfl (by simp[aJ,aB,aE,aG,aN,aK,hx]) ?_;repeat' ((conv=>whnf)<;>(first|refine sg ?_|exact kQ|(refine Br.mk ?_ ?_<;>intro _<;>try(exfalso;omega))|refine stq ?_|refine Cll.pu (hd) ?_|refine aO.pu (hd) ?_))
 all_goals(conv=>whnf)
 exact⟨Rd.eqd rfl rfl⟩
theorem wL {d:Db}{k:Int}{p:Prp}{t:Tbl}{text:List Int}{l:List Rng}(hd:@Pu gtR Tryz.prog 30 [dbD d,i64 k] (.tup [du p,iC t,i64 0])) (hb:@Pu gtR Tryz.prog 37 [du p,iC t,aQ text] (bc l)):@Pu gtR Tryz.prog 17 [dbD d,i64 k,aQ text] (.tup [bc l,i64 0]):=by
 letI:=gtR;refine Pu.of_v aA T0 Tryz.func17 rfl rfl (by simp[aJ,aB,aE,aG,aN,aK,aF]) ?_;repeat' ((conv=>whnf)<;>(first|refine sg ?_|exact kQ|(refine Br.mk ?_ ?_<;>intro _<;>try(exfalso;omega))|refine stq ?_|refine Cll.pu (hd) ?_|refine aO.pu (hd) ?_|refine Cll.pu (hb) ?_|refine aO.pu (hb) ?_))
 all_goals(conv=>whnf)
 exact⟨Rd.eqd rfl (by simp[aJ,aB,aK])⟩
theorem E6 {d:Db}{k e:Int}{x:D}(hx:aJ x=true) (h0:e≠0) (hd:@Pu gtR Tryz.prog 30 [dbD d,i64 k] (.tup [EM,Dw,i64 e])):@Pu gtR Tryz.prog 17 [dbD d,i64 k,x] (.tup [aT,i64 e]):=by
 letI:=gtR;refine Pu.of_v aA T0 Tryz.func17 rfl rfl (by simp[aJ,aB,aE,aG,aN,aK,hx]) ?_;repeat' ((conv=>whnf)<;>(first|refine sg ?_|exact kQ|(refine Br.mk ?_ ?_<;>intro _<;>try(exfalso;omega))|refine stq ?_|refine Cll.pu (hd) ?_|refine aO.pu (hd) ?_))
 all_goals(conv=>whnf)
 exact⟨Rd.eqd rfl rfl⟩
theorem Good.prt {d:Db}(h:Good d){k:Nat}{t:Tbl}{text:List Int}(hk:k=1∨k=2∨k=3∨k=4) (ht:t.ok) (hT:@Pu gtR Tryz.prog 51 [i64 (k:Int)] (iC t)) (hx:text.length<=1000):@Pu gtR Tryz.prog 17 [dbD d,i64 (k:Int),aQ text] (.tup [bc (tQ (prop d (k+2)) t text),i64 0]):=by
 letI:=gtR;have hs:=h.sm.2.1 (k+2) (by omega);exact wL (h.data hk hT) (FK (h.ok.prop (k+2)) ht (by omega) (by omega) hx)
theorem EL {p:Prp}{t:Tbl}{text:List Int}(hv:TV t):Chn 0 (tQ p t text) text.length:=by
 have hA:(kn p t text).length=text.length+1:=by rw[kn,if_pos hv,ge];simp[bm]
 rw[tQ,if_pos hv];exact uG (Eu hA)
end Go.Proofs.YtjpgpihbhicinaaGreatDoor
