/-
  The example at the head of the statements of layer 33.
-/
import Derived.Test.YtjpgpihbhicinaaGreatDoorL5
import Derived.Test.YtjpgpihbhicinaaGreatDoorV0
set_option linter.unusedSectionVars false
namespace Go.Proofs.YtjpgpihbhicinaaGreatDoor
section
open Go Go.Am
set_option maxRecDepth 1000000
abbrev zy:Prp:=⟨[[79,116,104,101,114]],[]⟩
abbrev En:Prp:=⟨[[79,116,104,101,114],[67,82],[76,70],[69,120,116,101,110,100]],[⟨10,10,2⟩,⟨13,13,1⟩,⟨769,769,3⟩]⟩
abbrev smp:Db:=⟨0,0,zy,zy,zy,En,zy,zy,zy,[],[],[],[],[],[],[],[],[],[],[],[],[]⟩
abbrev rc:D:=.agg [strs cl1,aQ (rs1.map (·.act)),bk LN1,bk LM1,bk RN1,bk RM1]
noncomputable def D3 (g:FuncId) (ds:List D):Option D:=
 if Nat.beq g 67=true then(if nr ds [rc]=true then some (boo true) else none) else spC g ds
open Classical in
theorem valid1:@Pu gtR Tryz.prog 67 [rc] (boo true):=by
 letI:=gtR;have h:=jB (t:=t1) tv1.2;rw[decide_eq_true tv1.1,t1,<-A8] at h;exact h
theorem yN:@o6 gtR Tryz.prog D3:=fun g ds d h=>by
 letI:=gtR;unfold D3 at h;split at h
 ·rename_i hg;obtain rfl:=Nat.eq_of_beq_eq_true hg;split at h
  ·rename_i he;injection h with h;subst h
   rw[fO _ _ he];exact valid1
  ·cases h
 ·exact jD g ds d h
theorem smp_c:@Pu gtR Tryz.prog 29 [] (dbD smp):=by
 letI:=gtR;exact Pu.of_t aA T0 jD rfl (by kernel_rfl:iy gtR Tryz.prog (iB Tryz.prog) spC 100 (.fn 29) [] .emp 0 (fun d1 h1 _=>fD h1 100000 d1 (dbD smp))=true)
theorem yP:@Pu gtR Tryz.prog 49 [dbD smp] (i64 0):=by
 letI:=gtR;exact Pu.of_t aA T0 jD (by kernel_rfl) (by kernel_rfl:iy gtR Tryz.prog (iB Tryz.prog) spC 1000 (.fn 49) [dbD smp] .emp 0 (fun d1 h1 _=>fD h1 100000 d1 (i64 0))=true)
theorem D4:∀ k,k<7->(prop smp k).names.length<=30∧(prop smp k).spans.length<=16:=fun k hk=>by
 rcases(by omega:k=0∨k=1∨k=2∨k=3∨k=4∨k=5∨k=6) with rfl|rfl|rfl|rfl|rfl|rfl|rfl
 all_goals exact⟨by decide,by decide⟩
theorem smp_a (a:Bool):@Pu gtR Tryz.prog 52 [du En,rc,aQ (if a then [97,769,98] else [13,10,97])] (aQ [2,1,2,2]):=by
 letI:=gtR;cases a
 ·exact Pu.of_t aA T0 yN (by kernel_rfl) (by kernel_rfl:iy gtR Tryz.prog (iB Tryz.prog) D3 1000 (.fn 52) [du En,rc,aQ [13,10,97]] .emp 0 (fun d1 h1 _=>fD h1 100000 d1 (aQ [2,1,2,2]))=true)
 ·exact Pu.of_t aA T0 yN (by kernel_rfl) (by kernel_rfl:iy gtR Tryz.prog (iB Tryz.prog) D3 1000 (.fn 52) [du En,rc,aQ [97,769,98]] .emp 0 (fun d1 h1 _=>fD h1 100000 d1 (aQ [2,1,2,2]))=true)
theorem FX (a:Bool):@Pu gtR Tryz.prog 17 [dbD smp,i64 1,aQ (if a then [97,769,98] else [13,10,97])] (.tup [bc [⟨0,2⟩,⟨2,3⟩],i64 0]):=by
 letI:=gtR;have hd:=wC (d:=smp) (k:=1) (t:=t1) (.inl rfl) D4 yP FW;have ha:=smp_a a;have e:rc=iC t1:=by rw[t1,<-A8]
 rw[e] at ha;exact wL hd (zW ha (by decide))
theorem pH {l:List Int}(h:l.length<=1000):@Pu gtR Tryz.prog 16 [aQ l,aQ l] (boo true):=by
 have:=@FL gtR l l (by omega)
 rwa [decide_eq_true rfl] at this
theorem zS:@Pu gtR Tryz.prog 13 [] (boo true):=by
 letI:=gtR;have hdb:aJ (dbD smp)=true:=by kernel_rfl
 have hs:=smp_c;have hR:Pu Tryz.prog 22 [dbD smp,aQ [97,769,98]] (.tup [aQ [98,97,769],i64 0]):=sq (FX true) ⟨rfl,by decide,rfl,by decide,rfl⟩ (by decide);have hT:Pu Tryz.prog 20 [dbD smp,aQ [13,10,97],i64 1] (.tup [aQ [13,10],i64 0]):=q9 (FX false) ⟨rfl,by decide,rfl,by decide,rfl⟩ (by decide) (by decide);have hB:Pu Tryz.prog 14 [dbD smp,i64 5,aT] (.tup [aT,i64 8]):=E7 rfl (by decide) (AZ yP (by decide));have h1:=pH (l:=[98,97,769]) (by decide);have h2:=pH (l:=[13,10]) (by decide);refine Pu.of_v aA T0 Tryz.func13 rfl rfl rfl ?_
 repeat' ((conv=>whnf)<;>(first|refine sg ?_|exact kQ|(refine Br.mk ?_ ?_<;>intro _<;>try(exfalso;omega))|refine stq ?_|refine Cll.pu (hs) ?_|refine aO.pu (hs) ?_|refine Cll.pu (hB) ?_|refine aO.pu (hB) ?_|refine Cll.emb (hR ⟨0,[]⟩) [] [2] (.tup [aQ [98,97,769],i64 0]) [] [] rfl (by(repeat(first|exact Rds.nil|refine Rds.cons (by first|exact cz rfl rfl rfl rfl|exact Rd.eqd rfl hdb|exact rdA|fail) ?_|fail));(first|done|fail)) (by(repeat(first|exact Bxs.nil|refine Bxs.cons rfl rfl rfl (by first|exact rbB|exact Rb.cells (by(repeat(first|exact Rds.nil|refine Rds.cons (by first|exact cz rfl rfl rfl rfl|exact Rd.eqd rfl hdb|exact rdA|fail) ?_|fail));(first|done|fail)) rfl|exact rbC|fail) ?_|fail));(first|done|fail)) (by first|exact cz rfl rfl rfl rfl|exact Rd.eqd rfl hdb|exact rdA|fail) (by(repeat(first|exact Bxs.nil|refine Bxs.cons rfl rfl rfl (by first|exact rbB|exact Rb.cells (by(repeat(first|exact Rds.nil|refine Rds.cons (by first|exact cz rfl rfl rfl rfl|exact Rd.eqd rfl hdb|exact rdA|fail) ?_|fail));(first|done|fail)) rfl|exact rbC|fail) ?_|fail));(first|done|fail)) (by(repeat(first|exact aj.nil|refine aj.cons rfl rfl rfl ?_|fail));(first|done|fail)) ?_|refine Cll.emb (hT ⟨0,[]⟩) [] [10] (.tup [aQ [13,10],i64 0]) [] [] rfl (by(repeat(first|exact Rds.nil|refine Rds.cons (by first|exact cz rfl rfl rfl rfl|exact Rd.eqd rfl hdb|exact rdA|fail) ?_|fail));(first|done|fail)) (by(repeat(first|exact Bxs.nil|refine Bxs.cons rfl rfl rfl (by first|exact rbB|exact Rb.cells (by(repeat(first|exact Rds.nil|refine Rds.cons (by first|exact cz rfl rfl rfl rfl|exact Rd.eqd rfl hdb|exact rdA|fail) ?_|fail));(first|done|fail)) rfl|exact rbC|fail) ?_|fail));(first|done|fail)) (by first|exact cz rfl rfl rfl rfl|exact Rd.eqd rfl hdb|exact rdA|fail) (by(repeat(first|exact Bxs.nil|refine Bxs.cons rfl rfl rfl (by first|exact rbB|exact Rb.cells (by(repeat(first|exact Rds.nil|refine Rds.cons (by first|exact cz rfl rfl rfl rfl|exact Rd.eqd rfl hdb|exact rdA|fail) ?_|fail));(first|done|fail)) rfl|exact rbC|fail) ?_|fail));(first|done|fail)) (by(repeat(first|exact aj.nil|refine aj.cons rfl rfl rfl ?_|fail));(first|done|fail)) ?_|refine Cll.emb (h1 ⟨0,[]⟩) [] [25] (boo true) [] [] rfl (by(repeat(first|exact Rds.nil|refine Rds.cons (by first|exact cz rfl rfl rfl rfl|exact rdA|fail) ?_|fail));(first|done|fail)) (by(repeat(first|exact Bxs.nil|refine Bxs.cons rfl rfl rfl (by first|exact rbB|exact Rb.cells (by(repeat(first|exact Rds.nil|refine Rds.cons (by first|exact cz rfl rfl rfl rfl|exact rdA|fail) ?_|fail));(first|done|fail)) rfl|exact rbC|fail) ?_|fail));(first|done|fail)) (by first|exact cz rfl rfl rfl rfl|exact rdA|fail) (by(repeat(first|exact Bxs.nil|refine Bxs.cons rfl rfl rfl (by first|exact rbB|exact Rb.cells (by(repeat(first|exact Rds.nil|refine Rds.cons (by first|exact cz rfl rfl rfl rfl|exact rdA|fail) ?_|fail));(first|done|fail)) rfl|exact rbC|fail) ?_|fail));(first|done|fail)) (by(repeat(first|exact aj.nil|refine aj.cons rfl rfl rfl ?_|fail));(first|done|fail)) ?_|refine Cll.emb (h2 ⟨0,[]⟩) [] [33] (boo true) [] [] rfl (by(repeat(first|exact Rds.nil|refine Rds.cons (by first|exact cz rfl rfl rfl rfl|exact rdA|fail) ?_|fail));(first|done|fail)) (by(repeat(first|exact Bxs.nil|refine Bxs.cons rfl rfl rfl (by first|exact rbB|exact Rb.cells (by(repeat(first|exact Rds.nil|refine Rds.cons (by first|exact cz rfl rfl rfl rfl|exact rdA|fail) ?_|fail));(first|done|fail)) rfl|exact rbC|fail) ?_|fail));(first|done|fail)) (by first|exact cz rfl rfl rfl rfl|exact rdA|fail) (by(repeat(first|exact Bxs.nil|refine Bxs.cons rfl rfl rfl (by first|exact rbB|exact Rb.cells (by(repeat(first|exact Rds.nil|refine Rds.cons (by first|exact cz rfl rfl rfl rfl|exact rdA|fail) ?_|fail));(first|done|fail)) rfl|exact rbC|fail) ?_|fail));(first|done|fail)) (by(repeat(first|exact aj.nil|refine aj.cons rfl rfl rfl ?_|fail));(first|done|fail)) ?_|fail))
 all_goals(conv=>whnf)
 exact aI.same rfl rfl
end
section
open Go Go.Am Classical
set_option maxRecDepth 100000
noncomputable abbrev gP (d:Db) (text:List Int):List Rng:=tQ (prop d 3) t1 text
theorem Good.p1 {d:Db}(h:Good d){text:List Int}(hx:text.length<=1000):@Pu gtR Tryz.prog 17 [dbD d,i64 1,aQ text] (.tup [bc (gP d text),i64 0]):=h.prt (k:=1) (.inl rfl) tv1.2 FW hx
theorem bad1 {d:Db}{k:Int}{x:D}(ho:d.ok) (hs:SmD d) (hv:¬DbV d) (hx:aJ x=true):@Pu gtR Tryz.prog 17 [dbD d,i64 k,x] (.tup [aT,i64 11]):=E6 hx (by decide) (Cx ho hs hv)
theorem Cd (d:Db) (text:List Int):Chn 0 (gP d text) text.length:=EL tv1.1
end
end Go.Proofs.YtjpgpihbhicinaaGreatDoor
