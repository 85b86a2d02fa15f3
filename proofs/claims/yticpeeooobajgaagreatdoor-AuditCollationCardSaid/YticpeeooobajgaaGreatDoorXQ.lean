/-
  AuditCollation over data: the example; the law.
-/
import Derived.Test.YticpeeooobajgaaGreatDoorIY
import Derived.Test.YticpeeooobajgaaGreatDoorI8
import Derived.Test.YticpeeooobajgaaGreatDoorXP
set_option linter.unusedSectionVars false
namespace Go.Proofs.YticpeeooobajgaaGreatDoor
open Go Go.Am Classical
set_option maxRecDepth 100000
set_option linter.unusedVariables false
theorem Pu.args {P:Program}{g:FuncId}{ds ds':List D}{d:D}(h:∀ c vs,VS c ds vs->VS c ds' vs) (hp:Pu P g ds' d):Pu P g ds d:=λH=>⟨(hp H).1,λc vs R hv=>(hp H).2 c vs R (h c vs hv)⟩
theorem VS.im {c:Ctx}{d d':D}{ds ds':List D}(h:∀ y,V c d y->V c d' y) (hs:∀ ys,VS c ds ys->VS c ds' ys):∀ ys,VS c (d::ds) ys->VS c (d' :: ds') ys:=by
 intro ys hv;obtain⟨y,ys',rfl,h1,h2⟩:=hv.inv;exact VS.cons (h y h1) (hs ys' h2)
theorem V.imA {c:Ctx}{ds ds':List D}(hs:∀ ys,VS c ds ys->VS c ds' ys):∀ y,V c (.agg ds) y->V c (.agg ds') y:=by
 intro y hv;simp only[V] at hv ⊢;obtain⟨ys,e,h⟩:=hv;exact⟨ys,e,hs ys h⟩
abbrev zC:D:=.agg [aT,aT,i64 0,i64 0,i64 0]
abbrev col00:Col:=⟨[],[],0,0,0⟩
abbrev opt0:Opt:=⟨3,1,false,false⟩
theorem BG:col00.ok:=⟨by simp,by simp,by simp,by simp⟩
theorem txk {n n':Nm}(hN:i5 n n'){t:List Int}(h:t.length<=12):TxK n' t∧(bY n' false t).length<=1500:=by
 have h1:=sr hN.g false t;exact⟨⟨by omega,by omega⟩,by omega⟩
theorem coll0:Pu Tryz.prog 8 [zN,zC,ob opt0,aT,aT] (i64 3):=by
 obtain⟨n',hN⟩:=Db Nm.ok.zero;have hT:=txk hN (t:=[]) si;refine Pu.args (λc=>?_) (nT (o:=opt0) (a:=[]) (b:=[]) BG hN hT.1 hT.1 hT.2);have hn:∀ y,V c aT y->V c (.imm 0 []) y:=λy=>V_nil
 exact VS.im (V.imA (VS.im hn (VS.im hn (VS.im hn λ_ h=>h)))) (VS.im (V.imA (VS.im hn (VS.im hn λ_ h=>h))) (VS.im (λ_ h=>h) (VS.im hn (VS.im hn λ_ h=>h))))
noncomputable def T58:List (FuncId×List D×Value):=[(8,[zN,zC,ob opt0,aT,aT],.int .i64 3),(12,[zN,aT],.int .i64 12),(12,[zN,aE [1,2]],.int .i64 16),
 (13,[zN,aT,aT,aT],.int .i64 5),(14,[zD 55,zD 58,aT],.int .i64 0),(15,[zD 67,aE [8,4],aT],.int .i64 0)]
theorem T58_ok:∀ e∈T58,Pu Tryz.prog e.1 e.2.1 (.v e.2.2):=by
 unfold T58;simp only[List.forall_mem_cons];exact⟨coll0,nrm0,nrm1,str0,bnd0,tab0,by simp⟩
theorem yy:Pu Tryz.prog 7 [] (boo true):=Pu.of_b (t:=T58) (u:=[]) (sp:=λ_ _=>none) aA T0 dI T58_ok si (f:=20) (by kernel_rfl) (by kernel_rfl)
theorem SmN.ok {n:Nm}(h:SmN n):n.ok:=⟨by have:=h.1;omega,by have:=h.2.1.2;omega,h.2.2,λi hi=>by have:=h.2.1.1 i hi (by have:=h.2.1.2;omega);omega,λi hi=>by have:=h.2.1.1 i hi (by have:=h.2.1.2;omega);omega⟩
theorem SmC.ok {c:Col}(h:SmC c) (hl:c.len):c.ok:=⟨by have:=h.1.1;omega,by have:=h.1.2;omega,hl.nm,λe he=>by
 obtain⟨i,hi,rfl⟩:=List.mem_iff_getElem.1 he;have:=h.2 i hi
 omega⟩
abbrev Da (n:Nm) (c:Col) (o:Opt) (a b:List Int):List D:=[cB n.cl,dY n.dc,dJ n.xc,r7 c.es,pE c.gs,i64 c.b,i64 c.s,i64 c.t,i64 o.st,i64 o.vr,boo o.bw,boo o.id,aE a,aE b]
theorem tU {n:Nm}{c:Col}{o:Opt}{a b:List Int}:aJ (Da n c o a b)=true:=by simp[aL,aJ,aO,cD,cC,bO,bN,aG]
set_option maxHeartbeats 2000000 in
theorem Ct {n:Nm}{c:Col}{o:Opt}{a b:List Int}(hn:n.len) (hc:c.len) (ha:a.length<=9223372036854775807) (hb:b.length<=9223372036854775807) :
  Pu Tryz.prog 3 [.agg (Da n c o a b)] (boo true):=by
 have hal:=yy;have h1:=AL hn;have h2:=BB hc;have h3:=Dh (m:=12) ha;have h4:=Dh (m:=12) hb;refine Pu.of_v aA T0 Tryz.func3 rfl rfl (aQ tU rfl) ?_;by_cases k1:SmN n
 ·rw[decide_eq_true k1] at h1;by_cases k2:SmC c
  ·rw[decide_eq_true k2] at h2;by_cases k3:(a.length:Int)<=12
   ·rw[decide_eq_true k3] at h3;by_cases k4:(b.length:Int)<=12
    ·rw[decide_eq_true k4] at h4;obtain⟨n',hN⟩:=Db k1.ok;have hA:=txk hN (t:=a) om;have hB:=txk hN (t:=b) om;have h5:=nT (o:=o) (k2.ok hc) hN hA.1 hB.1 hA.2;repeat' ((conv=>whnf);first|exact kQ|(refine bk ?_ ?_<;>intro _<;>try(exfalso;omega))|refine stq ?_|refine cp h1 ?_|refine cp h2 ?_|refine cp h3 ?_|refine cp h4 ?_|refine cp h5 ?_|refine cp hal ?_|fail)
     all_goals(conv=>whnf)
     all_goals exact aI.v rfl
    ·rw[decide_eq_false k4] at h4;repeat' ((conv=>whnf);first|exact kQ|(refine bk ?_ ?_<;>intro _<;>try(exfalso;omega))|refine stq ?_|refine cp h1 ?_|refine cp h2 ?_|refine cp h3 ?_|refine cp h4 ?_|refine cp hal ?_|fail)
     all_goals(conv=>whnf)
     all_goals exact aI.v rfl
   ·rw[decide_eq_false k3] at h3;repeat' ((conv=>whnf);first|exact kQ|(refine bk ?_ ?_<;>intro _<;>try(exfalso;omega))|refine stq ?_|refine cp h1 ?_|refine cp h2 ?_|refine cp h3 ?_|refine cp hal ?_|fail)
    all_goals(conv=>whnf)
    all_goals exact aI.v rfl
  ·rw[decide_eq_false k2] at h2;repeat' ((conv=>whnf);first|exact kQ|(refine bk ?_ ?_<;>intro _<;>try(exfalso;omega))|refine stq ?_|refine cp h1 ?_|refine cp h2 ?_|refine cp hal ?_|fail)
   all_goals(conv=>whnf)
   all_goals exact aI.v rfl
 ·rw[decide_eq_false k1] at h1;repeat' ((conv=>whnf);first|exact kQ|(refine bk ?_ ?_<;>intro _<;>try(exfalso;omega))|refine stq ?_|refine cp h1 ?_|refine cp hal ?_|fail)
  all_goals(conv=>whnf)
  all_goals exact aI.v rfl
end Go.Proofs.YticpeeooobajgaaGreatDoor
