/-
  Contracts of functions over data: the part of a text that is seen, by the program and by the reference.
-/
import Derived.Test.YtjjbmnacobnfeaaGreatDoorJ1
set_option linter.unusedSectionVars false
namespace Go.Proofs.YtjjbmnacobnfeaaGreatDoor
open Go Go.Am Classical
set_option maxRecDepth 100000
abbrev mo (a b:Int):D:=.agg [i64 a,i64 b]
theorem Bn {d:Db}{text:List Int}{a b:Int}(ho:d.ok) (hs:SmD d) (hv:¬DbV d):@Pu gtR Tryz.prog 20 [dbD d,aa text,mo a b] (.tup [mo 0 0,i64 11]):=by
 letI:=gtR
 obtain⟨e,he,hi⟩:=eX ho hs
 have h0:e≠0:=fun h=>hv (hi.1 h)
 refine Pu.of_v aA T0 Tryz.func20 rfl rfl (by simp[aM,aD,aF,aH,aK,aJ,aN]) ?_
 repeat' ((conv=>whnf)<;>(first|refine aB.go aA T0 ?_|exact True.intro|(refine Br.mk (fun _=>?_) (fun _=>?_)<;>(try(exfalso;omega)))|refine stq ?_|refine Cll.pu (he) ?_|refine aG.pu (he) ?_))
 all_goals(conv=>whnf)
 exact⟨Rd.eqd rfl rfl⟩
theorem vis_no {d:Db}{text:List Int}{a b:Int}(ho:d.ok) (hs:SmD d) (hv:¬DbV d):@Pu gtR Tryz.prog 19 [dbD d,aa text,mo a b] (.tup [mo 0 0,i64 11]):=by
 letI:=gtR
 obtain⟨e,he,hi⟩:=iU ho hs
 have h0:e≠0:=fun h=>hv (hi.1 h)
 refine Pu.of_v aA T0 Tryz.func19 rfl rfl (by simp[aM,aD,aF,aH,aK,aJ,aN]) ?_
 repeat' ((conv=>whnf)<;>(first|refine aB.go aA T0 ?_|exact True.intro|(refine Br.mk (fun _=>?_) (fun _=>?_)<;>(try(exfalso;omega)))|refine stq ?_|refine Cll.pu (he) ?_|refine aG.pu (he) ?_))
 all_goals(conv=>whnf)
 exact⟨Rd.eqd rfl rfl⟩
theorem zX {d:Db}{text:List Int}{a b:Int}(ho:d.ok) (hs:SmD d) (hv:DbV d) (hab:¬(0≤a∧a≤b∧b≤text.length)):@Pu gtR Tryz.prog 20 [dbD d,aa text,mo a b] (.tup [mo 0 0,i64 1]):=by
 letI:=gtR
 obtain⟨e,he,hi⟩:=eX ho hs
 obtain rfl:=hi.2 hv
 refine Pu.of_v aA T0 Tryz.func20 rfl rfl (by simp[aM,aD,aF,aH,aK,aJ,aN]) ?_
 repeat' ((conv=>whnf)<;>(first|refine aB.go aA T0 ?_|exact True.intro|(refine Br.mk (fun _=>?_) (fun _=>?_)<;>(try(exfalso;omega)))|refine stq ?_|refine Cll.pu (he) ?_|refine aG.pu (he) ?_))
 all_goals(conv=>whnf)
 all_goals first
  | exact⟨Rd.eqd rfl rfl⟩
  | (exfalso;exact hab ⟨by omega,by omega,by omega⟩)
theorem Bd {d:Db}{text:List Int}{a b:Int}(ho:d.ok) (hs:SmD d) (hv:DbV d) (hab:¬(0≤a∧a≤b∧b≤text.length)):@Pu gtR Tryz.prog 19 [dbD d,aa text,mo a b] (.tup [mo 0 0,i64 1]):=by
 letI:=gtR
 obtain⟨e,he,hi⟩:=iU ho hs
 obtain rfl:=hi.2 hv
 refine Pu.of_v aA T0 Tryz.func19 rfl rfl (by simp[aM,aD,aF,aH,aK,aJ,aN]) ?_
 repeat' ((conv=>whnf)<;>(first|refine aB.go aA T0 ?_|exact True.intro|(refine Br.mk (fun _=>?_) (fun _=>?_)<;>(try(exfalso;omega)))|refine stq ?_|refine Cll.pu (he) ?_|refine aG.pu (he) ?_))
 all_goals(conv=>whnf)
 all_goals first
  | exact⟨Rd.eqd rfl rfl⟩
  | (exfalso;exact hab ⟨by omega,by omega,by omega⟩)
theorem rvis_c {d:Db}{text:List Int}{a b:Nat}(ho:d.ok) (hs:SmD d) (hv:DbV d) (hx:text.length≤40) (hab:a≤b) (hb:b≤text.length) :
  @Pu gtR Tryz.prog 20 [dbD d,aa text,mo a b] (.tup [mo a (cq (nvL d text) a b),i64 0]):=by
 letI:=gtR
 obtain⟨e,he,hi⟩:=eX ho hs
 obtain rfl:=hi.2 hv
 refine Pu.of_v aA T0 Tryz.func20 rfl rfl (by simp[aM,aD,aF,aH,aK,aJ,aN]) ?_
 repeat' ((conv=>whnf)<;>(first|refine aB.go aA T0 ?_|exact True.intro|(refine Br.mk (fun _=>?_) (fun _=>?_)<;>(try(exfalso;omega)))|refine stq ?_|refine Cll.pu (he) ?_|refine aG.pu (he) ?_))
 refine aT.by aA T0 (fun k:Nat=>⟨tmp 50 [(1,aa text),(3,.ptr 0 0),(5,.ptr 1 0),(6,.ptr 2 0)],⟨3,[(2,.cells [i64 0,i64 0] true),(1,.cells [i64 a,i64 (k:Int)] true),(0,.cells (dbC d) true)]⟩⟩)
  (fun k=>a≤k∧k≤b∧cq (nvL d text) a k=cq (nvL d text) a b) (fun k=>k) b ⟨hab,Nat.le_refl _,rfl⟩ ?_ ?_
 ·exact Lf.of2 [(0,_),(1,_),(2,_)] [] enA bxA rfl rfl
 intro k ⟨h3,h4,h5⟩
 by_cases hk:a<k
 ·obtain⟨j,rfl⟩:∃ j,k=j+1:=⟨k-1,by omega⟩
  have hB:=Cr (d:=d) ho (show j<text.length by omega)
  by_cases hq:hid (nm4 ((nvL d text).getD j 0))
  ·rw[decide_eq_true hq] at hB
   repeat' ((conv=>whnf)<;>(first|refine Idx.at (f:=i64) (l:=text) j (by omega) (by omega) ?_|refine aB.go aA T0 ?_|exact True.intro|(refine Br.mk (fun _=>?_) (fun _=>?_)<;>(try(exfalso;omega)))|refine stq ?_|refine Cll.pu (hB) ?_|refine aG.pu (hB) ?_|refine bD.by aA T0 [0,1,0,4,15,31,63,63,63,319,831,1983,4031,8191,16383] (by kernel_rfl) ?_))
   all_goals(conv=>whnf)
   refine⟨j,⟨by omega,by omega,by rw[←h5,qe (by omega) hq]⟩,by omega,?_⟩
   exact Lf.of2 [(0,_),(1,_),(2,_)] [] enA bxA rfl rfl
  ·rw[decide_eq_false hq] at hB
   repeat' ((conv=>whnf)<;>(first|refine Idx.at (f:=i64) (l:=text) j (by omega) (by omega) ?_|refine aB.go aA T0 ?_|exact True.intro|(refine Br.mk (fun _=>?_) (fun _=>?_)<;>(try(exfalso;omega)))|refine stq ?_|refine Cll.pu (hB) ?_|refine aG.pu (hB) ?_|refine bD.by aA T0 [0,1,0,4,15,31,63,63,63,319,831,1983,4031,8191,16383] (by kernel_rfl) ?_))
   all_goals(conv=>whnf)
   rw[←h5,qf hq]
   exact⟨Rd.eqd rfl rfl⟩
 ·repeat' ((conv=>whnf)<;>(first|refine aB.go aA T0 ?_|exact True.intro|(refine Br.mk (fun _=>?_) (fun _=>?_)<;>(try(exfalso;omega)))|refine stq ?_|refine bD.by aA T0 [0,1,0,4,15,31,63,63,63,319,831,1983,4031,8191,16383] (by kernel_rfl) ?_))
  all_goals(conv=>whnf)
  rw[←h5,tH (by omega)]
  exact⟨Rd.eqd rfl rfl⟩
theorem wK {d:Db}{text:List Int}{a b:Nat}(ho:d.ok) (hs:SmD d) (hv:DbV d) (hx:text.length≤40) (hab:a≤b) (hb:b≤text.length) :
  @Pu gtR Tryz.prog 19 [dbD d,aa text,mo a b] (.tup [mo a (cq (nvL d text) a b),i64 0]):=by
 letI:=gtR
 obtain⟨e,he,hi⟩:=iU ho hs
 obtain rfl:=hi.2 hv
 have hsm:=hs.2.1 6 (by omega)
 have hp:Pu Tryz.prog 30 [dbD d,i64 6] (fW d.lin):=xH (fun k hk=>hs.2.1 k hk) 6 (by omega)
 have hT:=wR
 have ec:(D.imm ((b:Int)-(a:Int)).toNat (((text.map i64).drop ((a:Int).toNat*1)).take (((b:Int)-(a:Int)).toNat*1)):D)=aa ((text.drop a).take (b-a)):=by
  rw[show((b:Int)-(a:Int)).toNat=b-a from by omega,Nat.mul_one,Nat.mul_one,Int.toNat_natCast,←List.map_drop,←List.map_take]
  show _=D.imm _ _
  rw[show((text.drop a).take (b-a)).length=b-a from by simp;omega]
 have en:bI d.lin cl4 ((text.drop a).take (b-a))=((nvL d text).drop a).take (b-a):=by simp[bI,List.map_take,List.map_drop]
 have hA:Pu Tryz.prog 44 [fW d.lin,oh t4,aa ((text.drop a).take (b-a))] (aa (((nvL d text).drop a).take (b-a))):=by
  have h:=re (p:=d.lin) (t:=t4) (text:=(text.drop a).take (b-a)) (ho.prop 6) tv4.2 (by simp;omega) (by have:=hsm.2;simp only[prop] at this;omega) (by have:=hsm.1;simp only[prop] at this;omega)
  rw[if_pos tv4.1] at h
  rw[←en];exact h
 rw[←ec] at hA
 have hnl:=gZ d text
 have hq:∀ i (h:i<(((nvL d text).drop a).take (b-a)).length),(((nvL d text).drop a).take (b-a))[i]=(nvL d text).getD (a+i) 0:=fun i h=>by
  have h':i<b-a:=by simp at h;omega
  rw[aW (by omega)]
  simp
 have hl2:(((nvL d text).drop a).take (b-a)).length=b-a:=by simp;omega
 have hcl:t4.classes=cl4:=rfl
 generalize((nvL d text).drop a).take (b-a)=nvp at *
 generalize t4=t at *
 refine Pu.of_v aA T0 Tryz.func19 rfl rfl (by simp[aM,aD,aF,aH,aK,aJ,aN]) ?_
 repeat' ((conv=>whnf)<;>(first|refine Chk.mk ⟨by omega,by omega,by omega,(by show(List.map i64 text).length=text.length*1;simp)⟩ ?_|refine aB.go aA T0 ?_|exact True.intro|(refine Br.mk (fun _=>?_) (fun _=>?_)<;>(try(exfalso;omega)))|refine stq ?_|refine Cll.pu (he) ?_|refine aG.pu (he) ?_|refine Cll.pu (hp) ?_|refine aG.pu (hp) ?_|refine Cll.pu (hT) ?_|refine aG.pu (hT) ?_|refine Cll.pu (hA) ?_|refine aG.pu (hA) ?_|refine bD.by aA T0 [0,1,0,0,0,16,0,64,248,511,1023] (by kernel_rfl) ?_|fail))
 refine aT.by aA T0 (fun k:Nat=>⟨tmp 67 [(5,.ptr 0 0),(6,.ptr 1 0),(8,.ptr 2 0),(9,aa nvp),(10,i64 ((k:Int)-a-1))],⟨3,[(0,.cells [i64 a,i64 (k:Int)] true),(1,.cells [i64 0,i64 0] true),(2,.cells [strs t.classes,aa t.actions,bV t.left.next,bV t.left.marks,bV t.right.next,bV t.right.marks] true)]⟩⟩)
  (fun k=>a≤k∧k≤b∧cq (nvL d text) a k=cq (nvL d text) a b) (fun k=>k) b ⟨hab,Nat.le_refl _,rfl⟩ ?_ ?_
 ·exact Lf.of2 [(0,_),(1,_),(2,_)] [] enA bxA rfl rfl
 intro k ⟨h3,h4,h5⟩
 by_cases hk:a<k
 ·obtain⟨j,rfl⟩:∃ j,k=j+1:=⟨k-1,by omega⟩
  obtain⟨n,hn,en⟩:=zn (d:=d) (show j<text.length by omega)
  have hn':n<t.classes.length:=by rw[hcl];exact hn
  have ej:nvp[j-a]'(by omega)=(n:Int):=by rw[hq,show a+(j-a)=j by omega,en]
  have e4:nm4 ((nvL d text).getD j 0)=t.classes[n]:=by
   rw[en,zr hn];simp only[hcl]
  have hB:=AV (t.classes[n])
  by_cases hq2:hid (nm4 ((nvL d text).getD j 0))
  ·rw[←e4,decide_eq_true hq2,e4] at hB
   repeat' ((conv=>whnf)<;>(first|refine Idx.at (f:=D.str) (l:=t.classes) n (by omega) (by omega) ?_|refine Idx.at (f:=i64) (l:=nvp) (j-a) (by omega) (by omega) ?_|refine aB.go aA T0 ?_|exact True.intro|(refine Br.mk (fun _=>?_) (fun _=>?_)<;>(try(exfalso;omega)))|refine stq ?_|refine Cll.pu (hB) ?_|refine aG.pu (hB) ?_|refine bD.by aA T0 [0,1,3,7,15,7,7,103,231,511,1023,2047,4095] (by kernel_rfl) ?_))
   all_goals(conv=>whnf)
   refine⟨j,⟨by omega,by omega,by rw[←h5,qe (by omega) hq2]⟩,by omega,?_⟩
   exact Lf.of2 [(0,_),(1,_),(2,_)] [] enA bxA rfl rfl
  ·rw[←e4,decide_eq_false hq2,e4] at hB
   repeat' ((conv=>whnf)<;>(first|refine Idx.at (f:=D.str) (l:=t.classes) n (by omega) (by omega) ?_|refine Idx.at (f:=i64) (l:=nvp) (j-a) (by omega) (by omega) ?_|refine aB.go aA T0 ?_|exact True.intro|(refine Br.mk (fun _=>?_) (fun _=>?_)<;>(try(exfalso;omega)))|refine stq ?_|refine Cll.pu (hB) ?_|refine aG.pu (hB) ?_|refine bD.by aA T0 [0,1,3,7,15,7,7,103,231,511,1023,2047,4095] (by kernel_rfl) ?_))
   all_goals(conv=>whnf)
   rw[←h5,qf hq2]
   exact⟨Rd.eqd rfl rfl⟩
 ·repeat' ((conv=>whnf)<;>(first|refine aB.go aA T0 ?_|exact True.intro|(refine Br.mk (fun _=>?_) (fun _=>?_)<;>(try(exfalso;omega)))|refine stq ?_|refine bD.by aA T0 [0,1,3,7,15,7,7,103,231,511,1023,2047,4095] (by kernel_rfl) ?_))
  all_goals(conv=>whnf)
  rw[←h5,tH (by omega)]
  exact⟨Rd.eqd rfl rfl⟩
section
variable [GT]
theorem eqB {P:Program}{t:TypeId}{f0 f1:Field}{k:IntKind}{a b c e:Int}{ox oy:Operand}(h:P.underlying t=some (.struct #[f0,f1])) (hs:P.stoodInHeld t=false) (n0:f0.name ≠ "_") (n1:f1.name ≠ "_") (o0:f0.offset=0) (o1:f1.offset=1) (t0:P.underlying f0.type=some (.int k)) (t1:P.underlying f1.type=some (.int k)) (hg:P.eqGuardType P.depth t=false) :
  cK P .eql t ox oy (.agg [i64 a,i64 b]) (.agg [i64 c,i64 e])=some (.v (.bool (a == c&&b == e))):=by
 have e1:bv P (do eqGuard .eql t ox oy (.agg #[.int .i64 a,.int .i64 b]) (.agg #[.int .i64 c,.int .i64 e]);binOp .eql t (.agg #[.int .i64 a,.int .i64 b]) (.agg #[.int .i64 c,.int .i64 e]))=some (.bool (a == c&&b == e)):=by
  have e2:bv P (Op.equalIn 10000 t (.agg #[.int .i64 a,.int .i64 b]) (.agg #[.int .i64 c,.int .i64 e]))=some (a == c&&b == e):=nV (d:=9998) h hs n0 n1 o0 o1 t0 t1
  simp[eqGuard,binOp,dG,e7,hg,Op.equal,Op.maxDepth,e2,eZ,qo]
 have e3:cK P .eql t ox oy (.agg [i64 a,i64 b]) (.agg [i64 c,i64 e])=(match bv P (do eqGuard .eql t ox oy (.agg #[.int .i64 a,.int .i64 b]) (.agg #[.int .i64 c,.int .i64 e]);binOp .eql t (.agg #[.int .i64 a,.int .i64 b]) (.agg #[.int .i64 c,.int .i64 e])) with|some r=>ofV r|none=>none):=rfl
 rw[e3,e1]
 rfl
theorem kb {a b:Int}{ox oy:Operand}:cK Tryz.prog .eql 51 ox oy (.agg [i64 a,i64 b]) (.agg [i64 a,i64 b])=some (.v (.bool true)):=by
 rw[eqB (k:=.i64) rfl (by kernel_rfl) (by decide) (by decide) rfl rfl rfl rfl (by kernel_rfl)]
 simp
theorem iy {a b:Int}{ox oy:Operand}:cK Tryz.prog .neq 51 ox oy (.agg [i64 a,i64 b]) (.agg [i64 a,i64 b])=some (.v (.bool false)):=by
 rw[oH];simp
theorem jn {a b c e:Int}{ox oy:Operand}(h:¬(a=c∧b=e)):cK Tryz.prog .neq 51 ox oy (.agg [i64 a,i64 b]) (.agg [i64 c,i64 e])=some (.v (.bool true)):=by
 rw[oH]
 simp only[Option.some.injEq,D.v.injEq,Value.bool.injEq,Bool.not_eq_true',Bool.and_eq_false_imp,beq_iff_eq,beq_eq_false_iff_ne]
 exact fun h1 h2=>h ⟨h1,h2⟩
end
theorem vis_c {d:Db}{text:List Int}{r:Rng}(ho:d.ok) (hx:text.length≤9223372036854775807):@Pu gtR Tryz.prog 5 [dbD d,aa text,.agg (cY r)] (boo true):=by
 letI:=gtR
 have hal:=oT
 suffices h:∀ a b:Int,Pu Tryz.prog 5 [dbD d,aa text,mo a b] (boo true) from h r.lo r.hi
 intro a b
 by_cases hs:SmD d
 ·have hS:=kJ ho hs
  by_cases h40:text.length≤40
  ·by_cases hv:DbV d
   ·by_cases hab:0≤a∧a≤b∧b≤text.length
    ·obtain⟨a,rfl⟩:∃ n:Nat,a=(n:Int):=⟨a.toNat,by omega⟩
     obtain⟨b,rfl⟩:∃ n:Nat,b=(n:Int):=⟨b.toNat,by omega⟩
     have h1:=wK (a:=a) (b:=b) ho hs hv h40 (by omega) (by omega)
     have h2:=rvis_c (a:=a) (b:=b) ho hs hv h40 (by omega) (by omega)
     have hle:=wM (nvL d text) a b
     have hge:=wN (nvL d text) a b (by omega)
     have h3:=wK (a:=a) (b:=cq (nvL d text) a b) ho hs hv h40 (by omega) (by omega)
     rw[qg] at h3
     generalize cq (nvL d text) a b=e at *
     refine Pu.of_v aA T0 Tryz.func5 rfl rfl (by simp[aM,aD,aF,aH,aK,aJ,aN]) ?_
     repeat' ((conv=>whnf)<;>(first|refine aB.go aA T0 ?_|exact True.intro|(refine Br.mk (fun _=>?_) (fun _=>?_)<;>(try(exfalso;omega)))|refine stq ?_|refine Cll.pu (hS) ?_|refine aG.pu (hS) ?_|refine Cll.pu (h1) ?_|refine aG.pu (h1) ?_|refine Cll.pu (h2) ?_|refine aG.pu (h2) ?_|refine Cll.pu (h3) ?_|refine aG.pu (h3) ?_|refine Cll.pu (hal) ?_|refine aG.pu (hal) ?_|(split<;>rename_i heq<;>first|(obtain rfl:=Option.some.inj (iy.symm.trans heq))|(obtain rfl:=Option.some.inj (kb.symm.trans heq))|exact absurd (iy.symm.trans heq) (by simp)|exact absurd (kb.symm.trans heq) (by simp))))
     all_goals(conv=>whnf)
     all_goals exact aI.same rfl rfl
    ·have h1:=Bd ho hs hv hab
     have h2:=zX ho hs hv hab
     refine Pu.of_v aA T0 Tryz.func5 rfl rfl (by simp[aM,aD,aF,aH,aK,aJ,aN]) ?_
     repeat' ((conv=>whnf)<;>(first|refine aB.go aA T0 ?_|exact True.intro|(refine Br.mk (fun _=>?_) (fun _=>?_)<;>(try(exfalso;omega)))|refine stq ?_|refine Cll.pu (hS) ?_|refine aG.pu (hS) ?_|refine Cll.pu (h1) ?_|refine aG.pu (h1) ?_|refine Cll.pu (h2) ?_|refine aG.pu (h2) ?_|refine Cll.pu (hal) ?_|refine aG.pu (hal) ?_|(split<;>rename_i heq<;>first|(obtain rfl:=Option.some.inj (iy.symm.trans heq))|(obtain rfl:=Option.some.inj (kb.symm.trans heq))|exact absurd (iy.symm.trans heq) (by simp)|exact absurd (kb.symm.trans heq) (by simp))))
     all_goals(conv=>whnf)
     all_goals exact aI.same rfl rfl
   ·have h1:=vis_no (text:=text) (a:=a) (b:=b) ho hs hv
    have h2:=Bn (text:=text) (a:=a) (b:=b) ho hs hv
    refine Pu.of_v aA T0 Tryz.func5 rfl rfl (by simp[aM,aD,aF,aH,aK,aJ,aN]) ?_
    repeat' ((conv=>whnf)<;>(first|refine aB.go aA T0 ?_|exact True.intro|(refine Br.mk (fun _=>?_) (fun _=>?_)<;>(try(exfalso;omega)))|refine stq ?_|refine Cll.pu (hS) ?_|refine aG.pu (hS) ?_|refine Cll.pu (h1) ?_|refine aG.pu (h1) ?_|refine Cll.pu (h2) ?_|refine aG.pu (h2) ?_|refine Cll.pu (hal) ?_|refine aG.pu (hal) ?_|(split<;>rename_i heq<;>first|(obtain rfl:=Option.some.inj (iy.symm.trans heq))|(obtain rfl:=Option.some.inj (kb.symm.trans heq))|exact absurd (iy.symm.trans heq) (by simp)|exact absurd (kb.symm.trans heq) (by simp))))
    all_goals(conv=>whnf)
    exact aI.same rfl rfl
  ·refine Pu.of_v aA T0 Tryz.func5 rfl rfl (by simp[aM,aD,aF,aH,aK,aJ,aN]) ?_
   repeat' ((conv=>whnf)<;>(first|refine aB.go aA T0 ?_|exact True.intro|(refine Br.mk (fun _=>?_) (fun _=>?_)<;>(try(exfalso;omega)))|refine stq ?_|refine Cll.pu (hS) ?_|refine aG.pu (hS) ?_|refine Cll.pu (hal) ?_|refine aG.pu (hal) ?_))
   all_goals(conv=>whnf)
   exact aI.same rfl rfl
 ·have hS:=ly ho hs
  refine Pu.of_v aA T0 Tryz.func5 rfl rfl (by simp[aM,aD,aF,aH,aK,aJ,aN]) ?_
  repeat' ((conv=>whnf)<;>(first|refine aB.go aA T0 ?_|exact True.intro|(refine Br.mk (fun _=>?_) (fun _=>?_)<;>(try(exfalso;omega)))|refine stq ?_|refine Cll.pu (hS) ?_|refine aG.pu (hS) ?_|refine Cll.pu (hal) ?_|refine aG.pu (hal) ?_))
  all_goals(conv=>whnf)
  exact aI.same rfl rfl
end Go.Proofs.YtjjbmnacobnfeaaGreatDoor
