/-
  audit.Collation over data: all three checks hold.
-/
import Derived.Test.YticpeeooobajgaaGreatDoorIX
import Derived.Test.YticpeeooobajgaaGreatDoorI5
set_option linter.unusedSectionVars false
namespace Go.Proofs.YticpeeooobajgaaGreatDoor
open Go Go.Am Classical
set_option maxRecDepth 100000
set_option linter.unusedVariables false
theorem xIY.rdX {p:Prop}(h:p:=by first|exact Rd.frzp rfl rfl (Rds.same (b8 n))|exact Rd.frzp rfl rfl (Rds.same (dw c))|exact Rd.frzp rfl rfl (Rds.cons (Rd.same (aG _)) Rds.nil)|exact Rd.frzp rfl rfl (Rds.cons (Rd.fn .nil (.cons (.frzp rfl rfl (.same (b8 n))) (.cons (.frzp rfl rfl (.same (dw c))) .nil))) .nil)|exact Rd.frzp rfl rfl (Rds.eqs rfl rfl)|fail):p:=h
open xIY
theorem tb:∀ {a b:List Int},a.map i64=b.map i64->a=b
 | [],[],_=>rfl
 | [],_::_,h=>by simp at h
 | _::_,[],h=>by simp at h
 | x::a,y::b,h=>by
  injection h with h1 h2
  injection h1 with h1
  injection h1 with _ h1
  rw[h1,tb h2]
theorem tz {a b:List Int}(h:aE a=aE b):a=b:=tb (by injection h)
theorem ua {F:List Int->D}{x1 x2 x3 y1 y2 y3:D}{a b:List Int}(h:[x1,x2,x3,aE b]=[y1,y2,y3,aE a]):F a=F b:=by
 have e:aE b=aE a:=by injection h with _ h;injection h with _ h;injection h with _ h;injection h
 rw[tz e]
theorem C7 {F:List Int->D}{x1 x3 x4 y1 y3 y4:D}{a b:List Int}(h:[x1,aE b,x3,x4]=[y1,aE a,y3,y4]):F a=F b:=by
 have e:aE b=aE a:=by injection h with _ h;injection h
 rw[tz e]
theorem AR (a:List Int):aL (.iptr [aE a])=true:=by simp[aL,aJ,aG]
section
variable {c:Col}{n n':Nm}{o:Opt}{a b t:List Int}
abbrev nL (n:Nm) (c:Col):D:=.fn (.func 16) [] [.iptr (nmC n),.iptr (iW c)]
theorem qE (n:Nm) (c:Col):aL (.iptr (nmC n))=true∧aL (.iptr (iW c))=true∧aL (.iptr [nL n c])=true:=⟨b8 n,dw c,by simp[aL,aJ,aO,cD,cC,bO,bN]⟩
structure TxK (n':Nm) (t:List Int):Prop where
 len:t.length<=1500
 txt:(bY n' false t).length<=6000
theorem yU (hc:c.ok) (hN:i5 n n') (ht:TxK n' t):Pu Tryz.prog 16 [ob o,aE t,.iptr (nmC n),.iptr (iW c)] (aE (d6 c n' o t)):=by
 have hk:=Aq (o:=o) hc hN ht.len ht.txt;refine Pu.of_v aA T0 Tryz.func16 rfl rfl (aQ rfl (aQ (aG _) (aQ (qE n c).1 (aQ (qE n c).2.1 rfl)))) ?_;repeat' ((conv=>whnf);first|exact kQ|(refine bk ?_ ?_<;>intro _<;>try(exfalso;omega))|refine stq ?_|refine cp hk ?_|fail)
 all_goals(conv=>whnf)
 exact aI.same (aG _) rfl
theorem cmpK_c (hc:c.ok) (hN:i5 n n') (ha:TxK n' a) (hb:TxK n' b):Pu Tryz.prog 20 [nmD n,qL c,ob o,aE a,aE b] (i64 (bq (d6 c n' o a) (d6 c n' o b))):=by
 have h1:=Aq (o:=o) hc hN ha.len ha.txt;have h2:=Aq (o:=o) hc hN hb.len hb.txt;have l1:=fH (c:=c) (o:=o) ha.txt;have l2:=fH (c:=c) (o:=o) hb.txt;have h3:=nS (a:=d6 c n' o a) (b:=d6 c n' o b) om om;refine Pu.of_v aA T0 Tryz.func20 rfl rfl (aQ (eP n) (aQ (c7 c) (aQ rfl (aQ (aG _) (aQ (aG _) rfl))))) ?_;repeat' ((conv=>whnf);first|exact kQ|(refine bk ?_ ?_<;>intro _<;>try(exfalso;omega))|refine stq ?_|refine cp h1 ?_|refine cp h2 ?_|refine cp h3 ?_|refine ab.by (id:=1) aA T0 [0,0,0,0,15,0,0,0,0,511,1023,2047] (by kernel_rfl) ?_|refine Chk.mk (λ_=>rfl) ?_|refine Chk.mk (λh=>ua (F:=λt=>aE (d6 c n' o t)) h) ?_|refine Chk.mk (λh=>C7 (F:=λt=>aE (d6 c n' o t)) h) ?_|refine Chk.mk (λh=>ua (F:=λt=>aE (kpV c n' o t)) h) ?_|fail)
 all_goals(conv=>whnf)
 exact aI.int rfl
theorem k2_c (hc:c.ok) (hN:i5 n n') (ha:TxK n' a) (hb:TxK n' b):Pu Tryz.prog 19 [.iptr (nmC n),.iptr (iW c),.iptr (gm o),.iptr [aE a],.iptr [aE b],.iptr [nL n c]] (boo true):=by
 have h0:=cmpK_c (o:=o) hc hN ha hb;have h1:=yU (o:=o) hc hN ha;have h2:=yU (o:=o) hc hN hb;have l1:=fH (c:=c) (o:=o) ha.txt;have l2:=fH (c:=c) (o:=o) hb.txt;have h3:=jE (a:=d6 c n' o a) (b:=d6 c n' o b) om om;refine Pu.of_v aA T0 Tryz.func19 rfl rfl (aQ (qE n c).1 (aQ (qE n c).2.1 (aQ rfl (aQ (AR _) (aQ (AR _) (aQ (qE n c).2.2 rfl)))))) ?_;repeat' ((conv=>whnf);first|exact kQ|(refine bk ?_ ?_<;>intro _<;>try(exfalso;omega))|refine stq ?_|refine cp h0 ?_|refine cp h1 ?_|refine cp h2 ?_|refine cp h3 ?_|refine ab.by (id:=1) aA T0 [0,0,0,0,0,31,0,0,0,511,0,0,0,8191,16383,32767,65535] (by kernel_rfl) ?_|refine Chk.mk (λ_=>rfl) ?_|refine Chk.mk (λh=>ua (F:=λt=>aE (d6 c n' o t)) h) ?_|refine Chk.mk (λh=>C7 (F:=λt=>aE (d6 c n' o t)) h) ?_|refine Chk.mk (λh=>ua (F:=λt=>aE (kpV c n' o t)) h) ?_|fail)
 all_goals(conv=>whnf)
 all_goals exact aI.v rfl
theorem k3_c (hc:c.ok) (hN:i5 n n') (hid:o.id=false) (ha:TxK n' a) (hb:TxK n' b):Pu Tryz.prog 22 [.iptr (nmC n),.iptr (iW c),.iptr (gm o),.iptr [aE a],.iptr [aE b],.iptr [nL n c]] (boo true):=by
 have p1:=wz (o:=o) hc hN ha.len ha.txt;have p2:=wz (o:=o) hc hN hb.len hb.txt;have h1:=yU (o:=o) hc hN ha;have h2:=yU (o:=o) hc hN hb;have l1:=fH (c:=c) (o:=o) ha.txt;have l2:=fH (c:=c) (o:=o) hb.txt;have m1:=wy (c:=c) (o:=o) ha.txt;have m2:=wy (c:=c) (o:=o) hb.txt;have h3:=jE (a:=d6 c n' o a) (b:=d6 c n' o b) om om;have h4:=jE (a:=kpV c n' o a) (b:=kpV c n' o b) om om;rw[Cc hid] at h4;refine Pu.of_v aA T0 Tryz.func22 rfl rfl (aQ (qE n c).1 (aQ (qE n c).2.1 (aQ rfl (aQ (AR _) (aQ (AR _) (aQ (qE n c).2.2 rfl)))))) ?_;repeat' ((conv=>whnf);first|exact kQ|(refine bk ?_ ?_<;>intro _<;>try(exfalso;omega))|refine stq ?_|refine cp p1 ?_|refine cp p2 ?_|refine cp h1 ?_|refine cp h2 ?_|refine cp h3 ?_|refine cp h4 ?_|refine ab.by (id:=1) aA T0 [0,0,0,0,15,0,0,0,0,511,1023,2047] (by kernel_rfl) ?_|refine ab.by (id:=2) aA T0 [0,0,0,0,14,0,0,0,254,510,1023,2047] (by kernel_rfl) ?_|refine Chk.mk (λ_=>rfl) ?_|refine Chk.mk (λh=>ua (F:=λt=>aE (d6 c n' o t)) h) ?_|refine Chk.mk (λh=>C7 (F:=λt=>aE (d6 c n' o t)) h) ?_|refine Chk.mk (λh=>ua (F:=λt=>aE (kpV c n' o t)) h) ?_|fail)
 all_goals(conv=>whnf)
 all_goals exact aI.v rfl
theorem k4_c (hc:c.ok) (hN:i5 n n') (ha:TxK n' a) (ha2:(bY n' false a).length<=1500):Pu Tryz.prog 24 [.iptr [nL n c],.iptr (gm o),.iptr [aE a],.iptr (nmC n)] (boo true):=by
 have hid:bY n' false (bY n' false a)=bY n' false a:=xr hN;have ha3:TxK n' (bY n' false a):=⟨ha2,by rw[hid];omega⟩;have h1:=yU (o:=o) hc hN ha;have h2:=yU (o:=o) hc hN ha3;have hf:=Co hN ha.len;have l1:=fH (c:=c) (o:=o) ha.txt;have l2:=fH (c:=c) (o:=o) ha3.txt;have e:d6 c n' o (bY n' false a)=d6 c n' o a:=by unfold d6;rw[hid]
 rw[e] at h2;have h3:=xz (a:=d6 c n' o a) (b:=d6 c n' o a) om om;rw[decide_eq_true (rfl:d6 c n' o a=d6 c n' o a)] at h3;refine Pu.of_v aA T0 Tryz.func24 rfl rfl (aQ (qE n c).2.2 (aQ rfl (aQ (AR _) (aQ (qE n c).1 rfl)))) ?_;repeat' ((conv=>whnf);first|exact kQ|(refine bk ?_ ?_<;>intro _<;>try(exfalso;omega))|refine stq ?_|refine cp hf ?_|refine cp h1 ?_|refine cp h2 ?_|refine cp h3 ?_|refine ab.by (id:=1) aA T0 [0,0,0,7,0,0,0,0,207,511,1023,2047] (by kernel_rfl) ?_|refine Chk.mk (λ_=>rfl) ?_|refine Chk.mk (λh=>ua (F:=λt=>aE (d6 c n' o t)) h) ?_|refine Chk.mk (λh=>C7 (F:=λt=>aE (d6 c n' o t)) h) ?_|refine Chk.mk (λh=>ua (F:=λt=>aE (kpV c n' o t)) h) ?_|fail)
 all_goals(conv=>whnf)
 all_goals exact aI.v rfl
abbrev cFn2 (n:Nm) (c:Col) (o:Opt) (a b:List Int):D:=.fn (.func 19) [] [.iptr (nmC n),.iptr (iW c),.iptr (gm o),.iptr [aE a],.iptr [aE b],.iptr [nL n c]]
abbrev cFn3 (n:Nm) (c:Col) (o:Opt) (a b:List Int):D:=.fn (.func 22) [] [.iptr (nmC n),.iptr (iW c),.iptr (gm o),.iptr [aE a],.iptr [aE b],.iptr [nL n c]]
abbrev cFn4 (n:Nm) (c:Col) (o:Opt) (a:List Int):D:=.fn (.func 24) [] [.iptr [nL n c],.iptr (gm o),.iptr [aE a],.iptr (nmC n)]
theorem held_c (hc:c.ok) (hN:i5 n n') (ha:TxK n' a) (hb:TxK n' b) (ha2:(bY n' false a).length<=1500):Pu Tryz.prog 18 [.imm 3 [cFn2 n c o a b,cFn3 n c ⟨o.st,o.vr,o.bw,false⟩ a b,cFn4 n c o a]] (i64 3):=by
 have h2:=k2_c (o:=o) hc hN ha hb;have h3:=k3_c (o:=⟨o.st,o.vr,o.bw,false⟩) hc hN rfl ha hb;have h4:=k4_c (o:=o) hc hN ha ha2;have hnb:aJ [D.imm 3 [cFn2 n c o a b,cFn3 n c ⟨o.st,o.vr,o.bw,false⟩ a b,cFn4 n c o a]]=true:=by simp[aL,aJ,aO,cD,cC,bO,bN,aG]
 refine Pu.of_v aA T0 Tryz.func18 rfl rfl hnb ?_;repeat' ((conv=>whnf);first|exact kQ|(refine bk ?_ ?_<;>intro _<;>try(exfalso;omega))|refine stq ?_|refine cp h2 ?_|refine cp h3 ?_|refine cp h4 ?_|refine aH.times aA T0 4 ?_|refine Idx.mk (by decide) (by decide) rfl ?_|fail)
 all_goals(conv=>whnf)
 all_goals exact aI.int rfl
theorem nb3:aJ [cFn2 n c o a b,cFn3 n c ⟨o.st,o.vr,o.bw,false⟩ a b,cFn4 n c o a]=true:=by simp[aL,aJ,aO,cD,cC,bO,bN,aG]
theorem nT (hc:c.ok) (hN:i5 n n') (ha:TxK n' a) (hb:TxK n' b) (ha2:(bY n' false a).length<=1500):Pu Tryz.prog 8 [nmD n,qL c,ob o,aE a,aE b] (i64 3):=by
 have hh:=held_c (o:=o) hc hN ha hb ha2;refine Pu.of_v aA T0 Tryz.func8 rfl rfl (aQ (eP n) (aQ (c7 c) (aQ rfl (aQ (aG _) (aQ (aG _) rfl))))) ?_;repeat' ((conv=>whnf);first|refine ax.weak (x:=Code.seq (Code.region 4 _ false) _) aA T0 (s0:=⟨tmp 21 [(5,.iptr (nmC n)),(6,.iptr (iW c)),(7,.iptr (gm o)),(8,.iptr [aE a]),(9,.iptr [aE b]),(11,.iptr (gm ⟨o.st,o.vr,o.bw,false⟩)),(12,.iptr [nL n c])],⟨0,[]⟩⟩) ?_ ?_|exact kQ|(refine bk ?_ ?_<;>intro _<;>try(exfalso;omega))|refine stq ?_|refine Cll.give (.cons (Rd.frz rfl rfl (kD rfl) (Rds.same nb3)) .nil) hh ?_|fail)
 ·exact lq [] [0,1,2,3,4,7,12]
 all_goals(conv=>whnf)
 exact aI.int rfl
end
end Go.Proofs.YticpeeooobajgaaGreatDoor
