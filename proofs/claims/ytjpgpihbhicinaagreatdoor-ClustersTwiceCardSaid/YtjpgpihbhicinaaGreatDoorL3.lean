/-
  Contracts of functions over data: layer 33 (the program): the property and the table of a kind, boundaries and ranges of a text.
-/
import Derived.Test.YtjpgpihbhicinaaGreatDoorL0
import Derived.Test.YtjpgpihbhicinaaGreatDoorHI
import Derived.Test.YtjpgpihbhicinaaGreatDoorHE
import Derived.Test.YtjpgpihbhicinaaGreatDoorD0
set_option linter.unusedSectionVars false
namespace Go.Proofs.YtjpgpihbhicinaaGreatDoor
open Go Go.Am Classical
set_option maxRecDepth 100000
noncomputable instance gtI:GT:=gtR
theorem EO {d:Db}{text:List Int}(ho:d.ok):@Pu gtR Tryz.prog 12 [dbD d,aQ text] (boo (decide (SmD d∧text.length≤12))):=by
 letI:=gtR;have h:=Bb ho;refine Pu.of_v aA T0 Tryz.func12 rfl rfl (by simp[aH,aC,aG,aJ,aP,aO,aD]) ?_;repeat' ((conv=>whnf)<;>(first|refine aE.go aA T0 ?_|exact kQ|(refine Br.mk (fun _=>?_) (fun _=>?_)<;>(try(exfalso;omega)))|refine stq ?_|refine Cll.dec (h) (fun _=>?_) (fun _=>?_)|refine aW.dec (h) (fun _=>?_) (fun _=>?_)))
 all_goals(conv=>whnf)
 all_goals first
  | exact aN.yes ⟨by assumption,by omega⟩
  | exact aN.no (fun hc=>by have:=hc.2;omega)
  | exact aN.no (fun hc=>by have:=hc.1;contradiction)
theorem mP {d:Db}{text:List Int}(ho:d.ok) (hs:SmD d) (h:text.length≤12):@Pu gtR Tryz.prog 12 [dbD d,aQ text] (boo true):=by
 have:=EO (text:=text) ho
 rwa [decide_eq_true ⟨hs,h⟩] at this
theorem tG {d:Db}{text:List Int}(ho:d.ok) (h:¬(SmD d∧text.length≤12)):@Pu gtR Tryz.prog 12 [dbD d,aQ text] (boo false):=by
 have:=EO (text:=text) ho
 rwa [decide_eq_false h] at this
abbrev yl:D:=.agg [aU,aU]
abbrev yZ:D:=.agg [aU,aU,aU,aU,aU,aU]
theorem u6 {d:Db}{k:Nat}{t:Tbl}(hk:k=1∨k=2∨k=3∨k=4) (hl:∀ k,k<7→(prop d k).names.length≤30∧(prop d k).spans.length≤16) (he:@Pu gtR Tryz.prog 49 [dbD d] (i64 0)) (hT:@Pu gtR Tryz.prog 51 [i64 (k:Int)] (d7 t)):@Pu gtR Tryz.prog 30 [dbD d,i64 (k:Int)] (.tup [fF (prop d (k+2)),d7 t,i64 0]):=by
 letI:=gtR;have hp:∀ j:Nat,j<7→Pu Tryz.prog 50 [dbD d,i64 (j:Int)] (fF (prop d j)):=Dm hl;have hp3:Pu Tryz.prog 50 [dbD d,i64 3] (fF (prop d 3)):=hp 3 (by omega);have hp4:Pu Tryz.prog 50 [dbD d,i64 4] (fF (prop d 4)):=hp 4 (by omega);have hp5:Pu Tryz.prog 50 [dbD d,i64 5] (fF (prop d 5)):=hp 5 (by omega);have hp6:Pu Tryz.prog 50 [dbD d,i64 6] (fF (prop d 6)):=hp 6 (by omega);rcases hk with rfl|rfl|rfl|rfl
 all_goals
  refine Pu.of_v aA T0 Tryz.func30 rfl rfl (by simp[aH,aC,aG,aJ,aP,aO]) ?_;repeat' ((conv=>whnf)<;>(first|refine aE.go aA T0 ?_|exact kQ|(refine Br.mk (fun _=>?_) (fun _=>?_)<;>(try(exfalso;omega)))|refine stq ?_|refine Cll.pu (he) ?_|refine aW.pu (he) ?_|refine Cll.pu (hp3) ?_|refine aW.pu (hp3) ?_|refine Cll.pu (hp4) ?_|refine aW.pu (hp4) ?_|refine Cll.pu (hp5) ?_|refine aW.pu (hp5) ?_|refine Cll.pu (hp6) ?_|refine aW.pu (hp6) ?_|refine Cll.pu (hT) ?_|refine aW.pu (hT) ?_))
  all_goals(conv=>whnf)
  exact⟨Rd.eqd rfl (by simp[aH,aC,aD,aG,aJ,ah])⟩
theorem jk {d:Db}{k:Int}(ho:d.ok) (hs:SmD d) (hv:¬DbV d):@Pu gtR Tryz.prog 30 [dbD d,i64 k] (.tup [yl,yZ,i64 11]):=by
 letI:=gtR;obtain⟨e,he,hi⟩:=rz ho hs;have h0:e≠0:=fun h=>hv (hi.1 h)
 refine Pu.of_v aA T0 Tryz.func30 rfl rfl (by simp[aH,aC,aG,aJ,aP,aO]) ?_;repeat' ((conv=>whnf)<;>(first|refine aE.go aA T0 ?_|exact kQ|(refine Br.mk (fun _=>?_) (fun _=>?_)<;>(try(exfalso;omega)))|refine stq ?_|refine Cll.pu (he) ?_))
 all_goals(conv=>whnf)
 exact⟨Rd.eqd rfl rfl⟩
theorem r4 {d:Db}{k:Int}(he:@Pu gtR Tryz.prog 49 [dbD d] (i64 0)) (hk:¬(1≤k∧k≤4)):@Pu gtR Tryz.prog 30 [dbD d,i64 k] (.tup [yl,yZ,i64 8]):=by
 letI:=gtR;refine Pu.of_v aA T0 Tryz.func30 rfl rfl (by simp[aH,aC,aG,aJ,aP,aO]) ?_;repeat' ((conv=>whnf)<;>(first|refine aE.go aA T0 ?_|exact kQ|(refine Br.mk (fun _=>?_) (fun _=>?_)<;>(try(exfalso;omega)))|refine stq ?_|refine Cll.pu (he) ?_))
 all_goals(conv=>whnf)
 exact⟨Rd.eqd rfl rfl⟩
structure Good (d:Db):Prop where
 ok:d.ok
 sm:SmD d
 va:DbV d
theorem Good.chk {d:Db}(h:Good d):@Pu gtR Tryz.prog 49 [dbD d] (i64 0):=by
 obtain⟨e,he,hi⟩:=@rz gtR d h.ok h.sm;obtain rfl:=hi.2 h.va;exact he
theorem Good.data {d:Db}(h:Good d){k:Nat}{t:Tbl}(hk:k=1∨k=2∨k=3∨k=4) (hT:@Pu gtR Tryz.prog 51 [i64 (k:Int)] (d7 t)):@Pu gtR Tryz.prog 30 [dbD d,i64 (k:Int)] (.tup [fF (prop d (k+2)),d7 t,i64 0]):=u6 hk (fun k hk=>h.sm.2.1 k hk) h.chk hT
theorem B2 {d:Db}{k:Int}{p:Prp}{t:Tbl}{text:List Int}{l:List Int}(hd:@Pu gtR Tryz.prog 30 [dbD d,i64 k] (.tup [fF p,d7 t,i64 0])) (hb:@Pu gtR Tryz.prog 31 [fF p,d7 t,aQ text] (aQ l)):@Pu gtR Tryz.prog 14 [dbD d,i64 k,aQ text] (.tup [aQ l,i64 0]):=by
 letI:=gtR;refine Pu.of_v aA T0 Tryz.func14 rfl rfl (by simp[aH,aC,aG,aJ,aP,aO,aD]) ?_;repeat' ((conv=>whnf)<;>(first|refine aE.go aA T0 ?_|exact kQ|(refine Br.mk (fun _=>?_) (fun _=>?_)<;>(try(exfalso;omega)))|refine stq ?_|refine Cll.pu (hd) ?_|refine aW.pu (hd) ?_|refine Cll.pu (hb) ?_|refine aW.pu (hb) ?_))
 all_goals(conv=>whnf)
 exact⟨Rd.eqd rfl (by simp[aH,aC,aD])⟩
theorem x7 {d:Db}{k e:Int}{x:D}(hx:aH x=true) (h0:e≠0) (hd:@Pu gtR Tryz.prog 30 [dbD d,i64 k] (.tup [yl,yZ,i64 e])):@Pu gtR Tryz.prog 14 [dbD d,i64 k,x] (.tup [aU,i64 e]):=by
 letI:=gtR;refine Pu.of_v aA T0 Tryz.func14 rfl rfl (by simp[aH,aC,aG,aJ,aP,aO,hx]) ?_;repeat' ((conv=>whnf)<;>(first|refine aE.go aA T0 ?_|exact kQ|(refine Br.mk (fun _=>?_) (fun _=>?_)<;>(try(exfalso;omega)))|refine stq ?_|refine Cll.pu (hd) ?_|refine aW.pu (hd) ?_))
 all_goals(conv=>whnf)
 exact⟨Rd.eqd rfl rfl⟩
theorem vD {d:Db}{k:Int}{p:Prp}{t:Tbl}{text:List Int}{l:List Rng}(hd:@Pu gtR Tryz.prog 30 [dbD d,i64 k] (.tup [fF p,d7 t,i64 0])) (hb:@Pu gtR Tryz.prog 37 [fF p,d7 t,aQ text] (bQ l)):@Pu gtR Tryz.prog 17 [dbD d,i64 k,aQ text] (.tup [bQ l,i64 0]):=by
 letI:=gtR;refine Pu.of_v aA T0 Tryz.func17 rfl rfl (by simp[aH,aC,aG,aJ,aP,aO,aD]) ?_;repeat' ((conv=>whnf)<;>(first|refine aE.go aA T0 ?_|exact kQ|(refine Br.mk (fun _=>?_) (fun _=>?_)<;>(try(exfalso;omega)))|refine stq ?_|refine Cll.pu (hd) ?_|refine aW.pu (hd) ?_|refine Cll.pu (hb) ?_|refine aW.pu (hb) ?_))
 all_goals(conv=>whnf)
 exact⟨Rd.eqd rfl (by simp[aH,aC,aO])⟩
theorem tR {d:Db}{k e:Int}{x:D}(hx:aH x=true) (h0:e≠0) (hd:@Pu gtR Tryz.prog 30 [dbD d,i64 k] (.tup [yl,yZ,i64 e])):@Pu gtR Tryz.prog 17 [dbD d,i64 k,x] (.tup [aU,i64 e]):=by
 letI:=gtR;refine Pu.of_v aA T0 Tryz.func17 rfl rfl (by simp[aH,aC,aG,aJ,aP,aO,hx]) ?_;repeat' ((conv=>whnf)<;>(first|refine aE.go aA T0 ?_|exact kQ|(refine Br.mk (fun _=>?_) (fun _=>?_)<;>(try(exfalso;omega)))|refine stq ?_|refine Cll.pu (hd) ?_|refine aW.pu (hd) ?_))
 all_goals(conv=>whnf)
 exact⟨Rd.eqd rfl rfl⟩
theorem Good.prt {d:Db}(h:Good d){k:Nat}{t:Tbl}{text:List Int}(hk:k=1∨k=2∨k=3∨k=4) (ht:t.ok) (hT:@Pu gtR Tryz.prog 51 [i64 (k:Int)] (d7 t)) (hx:text.length≤1000):@Pu gtR Tryz.prog 17 [dbD d,i64 (k:Int),aQ text] (.tup [bQ (fC (prop d (k+2)) t text),i64 0]):=by
 letI:=gtR;have hs:=h.sm.2.1 (k+2) (by omega);exact vD (h.data hk hT) (yH (h.ok.prop (k+2)) ht (by omega) (by omega) hx)
theorem ly {p:Prp}{t:Tbl}{text:List Int}(hv:TV t):Chn 0 (fC p t text) text.length:=by
 have hA:(i4 p t text).length=text.length+1:=by rw[i4,if_pos hv,dR];simp[bD]
 rw[fC,if_pos hv];exact tU (xn hA)
end Go.Proofs.YtjpgpihbhicinaaGreatDoor
