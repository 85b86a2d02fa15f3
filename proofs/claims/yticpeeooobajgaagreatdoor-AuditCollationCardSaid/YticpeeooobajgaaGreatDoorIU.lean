/-
  Rounds of loops over functions: drawn regions in them, ends numbered anew; the loop of keypack.Pack.
-/
import Derived.Test.YticpeeooobajgaaGreatDoorIJ
import Derived.Test.YticpeeooobajgaaGreatDoorIE
set_option linter.unusedSectionVars false
namespace Go.Proofs.YticpeeooobajgaaGreatDoor
open Go Go.Am Classical
set_option maxRecDepth 100000
set_option linter.unusedVariables false
theorem SvX.draw {P:Program}{ti:TI}(hm:P.follows .mixedOrders=true) (T:TOk P ti){id:Nat}{ops:Array Oper}{K:Exit->List D->aB->Prop}{tm:List D}{n:Nat}{bs:List (Nat×Box)}(M:List Nat) (hok:(bZ ops&&decide (db ops.toList []=M))=true)
  (h:uO P ti ops n M ops.toList 0 tm [(0,⟨n+ops.size,bs⟩)] [] [] [] [] (en n (λs=>K .normal s.tmps s.h))):SvX P (.region id ops true) K ⟨tm,⟨n,bs⟩⟩:=⟨by
 simp only[kC,decide_eq_true_eq] at hok;obtain⟨hok,hM⟩:=hok;subst hM;obtain⟨mm2,ds,k1,k2,k3,k4⟩:=cZ ops _ _ _ _ _ _ _ _ _ _ _ h (λ_ _ _ _ h=>by simp at h);rw[List.append_nil] at k2
 have hC:fS P (clM mm2):=λk as0 h0 d h' hx=>by
  cases k with
  | yf id=>simp[clM] at hx
  | fn g=>
   simp only[clM,kJ,kB] at hx;obtain⟨d',h1,rfl,rfl⟩:=hx;exact k3 _ (j0 h1) _
 have hr:=k4 mm2 (λe he=>lp k2 (by exact he));unfold en at k1;split at k1
 ·rename_i t g r hh
  have hd:bH P ti (clM mm2) eqC ops ⟨tm,⟨n,bs⟩⟩=some ⟨ds.tm,dB n ds.pend g⟩:=by
   unfold bH;simp only[bump];rw[hr];simp only[hh]
  intro ro m c a R hf hR;exact dR hm T hC iU hok hd hf λc' a' f1 g1 p1 d1=>hR _ _ _ c' a' (gD k1) f1 g1 p1 d1
 ·exact k1.elim⟩
theorem SvX.drawW {P:Program}{ti:TI}(hm:P.follows .mixedOrders=true) (T:TOk P ti){id:Nat}{ops:Array Oper}{K:Exit->List D->aB->Prop}{tm:List D}{n:Nat}{bs:List (Nat×Box)}(M:List Nat) (hok:(bZ ops&&decide (db ops.toList []=M))=true)
  (h:uP P ti ops n M ops.toList 0 tm [(0,⟨n+ops.size,bs⟩)] [] [] [] [] (en n (λs=>K .normal s.tmps s.h))):SvX P (.region id ops true) K ⟨tm,⟨n,bs⟩⟩:=⟨by
 simp only[kC,decide_eq_true_eq] at hok;obtain⟨hok,hM⟩:=hok;subst hM;obtain⟨m2,ds,k1,k2,k3,k4,k5⟩:=ce ops _ _ _ _ _ _ _ _ _ _ _ h
 have hC:fS P (clW m2):=λk as0 h0 d h' hx=>by
  cases k with
  | yf id=>simp[clW] at hx
  | fn g=>
   simp only[clW] at hx;split at hx
   ·rename_i e he;have h1:=List.find?_some he;have h2:=List.mem_of_find?_eq_some he;simp only[decide_eq_true_eq] at h1;simp only[kA,kB] at hx;obtain⟨rfl,rfl,rfl⟩:=h1;obtain⟨rfl,rfl⟩:=hx;exact k2 e h2
   ·cases hx
 have hr:=k5 (clW m2) (λe he=>nq k4 he);unfold en at k1;split at k1
 ·rename_i t g r hh
  have hd:bH P ti (clW m2) eqC ops ⟨tm,⟨n,bs⟩⟩=some ⟨ds.tm,dB n ds.pend g⟩:=by
   unfold bH;simp only[bump];rw[hr];simp only[hh]
  intro ro m c a R hf hR;exact dR hm T hC iU hok hd hf λc' a' f1 g1 p1 d1=>hR _ _ _ c' a' (gD k1) f1 g1 p1 d1
 ·exact k1.elim⟩
theorem Y1.of_sxL {P:Program}{id:Nat}{ds:List D}{n:Nat}{bs:List (Nat×Box)}{h':aB}{tm:List D}{ps:List Tmp}{assign body:Code}
  (hg:aB.get ⟨n,bs⟩ id=some (.loop .ready none tm ps assign body)) (hlen:ds.length=ps.length)
  (H:SvX P assign (λe tm1 h1=>e=.normal∧h1.get id=some (.loop .ready none tm ps assign body)∧SvX P body (λe2 _ h2=>e2=.normal∧h2.get id=some (.loop .busy none tm ps assign body)∧Lf n ⟨[.v (.bool true)],h2.set id (.loop .ready none tm ps assign body)⟩ ⟨tmp 1 [(0,.v (.bool true))],h'⟩) ⟨tm1,h1.set id (.loop .busy none tm ps assign body)⟩) ⟨eL ps ds tm,⟨n,bs⟩⟩) :
  Y1 P id ds ⟨n,bs⟩ (.v (.bool true)) h':=by
 intro c vs b R hvs hφ;have hid:id<n:=Nat.lt_of_not_le λhle=>by rw[R.fresh id hle] at hφ;cases hφ
 obtain⟨b0,o0,q1,_,q3⟩:=R.live _ _ hg;rw[hφ] at q1;injection q1 with q1;injection q1 with e1 e2;subst e1;subst e2
 obtain⟨_,L,l1,l2,l3,l4,l5,l6,l7⟩:=q3
 have hsz:vs.toArray.size=L.params.size:=by
  have a1:=hvs.length;have a2:L.params.toList.length=ps.length:=by rw[l5]
  simp at a2 ⊢;omega
 refine⟨_,_,_,_,run_yield l1 hsz,λro m=>roundIn_of_wpIn trivial ?_⟩;rw[nt,l5,l6,l7];have hfit:Fit c ⟨eL ps ds tm,⟨n,bs⟩⟩ { tmps:=(ps.zip vs).foldl (λ(t:Array Value) p=>t.setIfInBounds p.1 p.2) L.tmps,defers:=[] }:=⟨R,gF ps ds vs tm L.tmps hvs l4⟩;refine H.run (some b) m c _ _ hfit λe tm1 h1 c1 a1 hk f1 g1 p1 d1=>?_
 obtain⟨rfl,hg1,H2⟩:=hk;have e1:c1.φ id=some (b,0):=by rw[p1 id hid];exact hφ
 obtain⟨b1,o1,r1,_,r3⟩:=f1.rel.live _ _ hg1;rw[e1] at r1;injection r1 with r1;injection r1 with x1 x2;subst x1;subst x2
 obtain⟨_,L1,m1,m2,m3,m4,m5⟩:=r3;obtain⟨R2,G2⟩:=fq f1.rel (box':=.loop .busy none tm ps assign body) (o':=.loop { L1 with state:=.busy }) hg1 e1 (du m1) λK hb=>⟨rfl,_,hb,rfl,m3,VS.keep K _ _ m4,m5⟩
 refine⟨_,run_beginRound m1 m2,?_⟩;refine H2.run (some b) m { c1 with w:=c1.w.putObj b (.loop { L1 with state:=.busy }) } a1 _ ⟨R2,VS.keep G2.keeps _ _ f1.tmps⟩ λe tm3 h3 c3 a3 hk3 f3 g3 p3 d3=>?_
 obtain⟨rfl,hg2,hle⟩:=hk3
 have hid1:id<(h1.set id (.loop .busy none tm ps assign body)).next:=by
  have:=g1.next
  show id<h1.next;exact Nat.lt_of_lt_of_le hid this
 have e3:c3.φ id=some (b,0):=by rw[p3 id hid1];exact e1
 obtain⟨b3,o3,t1,_,t3⟩:=f3.rel.live _ _ hg2;rw[e3] at t1;injection t1 with t1;injection t1 with x1 x2;subst x1;subst x2
 obtain⟨_,L3,n1,n2,n3,n4,n5⟩:=t3;obtain⟨R4,G4⟩:=fq f3.rel (box':=.loop .ready none tm ps assign body) (o':=.loop { L3 with state:=.ready,pending:=none }) hg2 e3 (du n1) λK hb=>⟨rfl,_,hb,rfl,rfl,VS.keep K _ _ n4,n5⟩
 have hφ4:∀ j,j<n->c3.φ j=c.φ j:=λj hj=>by
  have hj1:j<(h1.set id (.loop .busy none tm ps assign body)).next:=Nat.lt_of_lt_of_le hj g1.next;rw[p3 j hj1];exact p1 j hj
 obtain⟨c5,w5,f5,b5⟩:=hle.le c ⟨n,bs⟩ { c3 with w:=c3.w.putObj b (.loop { L3 with state:=.ready,pending:=none }) } { tmps:=#[Value.bool true],defers:=[] } ⟨rfl,λj hj=>R.fresh j hj,((g1.trans G2).trans g3).trans G4,hφ4⟩ ⟨R4,VS.cons (by simp[V,cW]) VS.nil⟩;have v5:V c5 (.v (.bool true)) (.bool true):=by simp[V,cW]
 exact⟨_,_,run_endRound none n1,Value.bool true,c5,rfl,w5,v5,f5.rel,b5.grow,b5.φ⟩
theorem Yll.y1 {P:Program}{id:Nat}{ds:List D}{h h':aB}{d:D}{K:D->aB->Prop}(hy:Y1 P id ds h d h') (go:K d h'):Yll P id ds h K:=⟨_,_,hy,go⟩
abbrev rnP (v:List Int):D:=.fn (.func 271) [] [.iptr [aE v]]
noncomputable abbrev bE (m:Int) (v:List Int):Box:=.loop .ready none [.any,.any,.any,.any,.any,.iptr [i64 m],.iptr [aE v],.any,.any,.ptr 0 0,.ptr 1 0,.any,.any,.any,.any,.any,.any,.any,.any,.any,.any,.any,.any,.any,.any,.any,.any,.any,.any,.any,.any,.any,.any,.any,.any,.any,.any,.any,rnP v,.any,.any,.any,.any,.any,.any,.any,.any,.any,.any,.any,.any,.any,.any,.any,.any,.any,.any,.any,.any,.any,.any,.any,.any,.any,.any,.any,.any,.any,.any,.any,.any,.any,.any,.any,.any,.any,.any,.any,.any,.any,.any,.any,.any,.any,.any,.any,.any,.any,.any,.any,.any,.any,.any,.any,.any,.any,.any,.any,.any] [39,40] (fnA Tryz.f75) (fnB Tryz.f75)
noncomputable abbrev dD (m:Int) (v:List Int):Box:=.loop .busy none [.any,.any,.any,.any,.any,.iptr [i64 m],.iptr [aE v],.any,.any,.ptr 0 0,.ptr 1 0,.any,.any,.any,.any,.any,.any,.any,.any,.any,.any,.any,.any,.any,.any,.any,.any,.any,.any,.any,.any,.any,.any,.any,.any,.any,.any,.any,rnP v,.any,.any,.any,.any,.any,.any,.any,.any,.any,.any,.any,.any,.any,.any,.any,.any,.any,.any,.any,.any,.any,.any,.any,.any,.any,.any,.any,.any,.any,.any,.any,.any,.any,.any,.any,.any,.any,.any,.any,.any,.any,.any,.any,.any,.any,.any,.any,.any,.any,.any,.any,.any,.any,.any,.any,.any,.any,.any,.any,.any] [39,40] (fnA Tryz.f75) (fnB Tryz.f75)
theorem nbV (v:List Int):aL (.iptr [aE v])=true:=by simp[aL,aJ,aG]
theorem rbP {h:aB}{fz:Nat->Bool}{σl:List (Nat×Nat)}{m:Int}{v:List Int}:Rb h fz (sgm 4 σl) (bE m v) (bE m v):=
 .loop (by repeat(first|exact Rds.nil|refine Rds.cons (by first|exact Rd.any|exact Rd.ptr rfl|exact Rd.same rfl|exact Rd.same (by simp[aL,aJ,aG])) ?_))
theorem wX {h:aB}{fz:Nat->Bool}{σl:List (Nat×Nat)}{m:Int}{v:List Int}:Rb h fz (sgm 29 σl) (bE m v) (bE m v):=
 .loop (by repeat(first|exact Rds.nil|refine Rds.cons (by first|exact Rd.any|exact Rd.ptr rfl|exact Rd.same rfl|exact Rd.same (by simp[aL,aJ,aG])) ?_))
theorem tq {v:List Int}:Pk Tryz.prog 159 [aE v] 1 (λn=>.fn (.func 271) [] [.ptr n 0]) (λn=>[(n,.cells [aE v] true)]):=by
 refine Pk.of_v aA T0 Tryz.func159 rfl rfl (by simp[aJ,aG]) ?_;repeat' ((conv=>whnf);first|exact kQ|(refine bk ?_ ?_<;>intro _<;>try(exfalso;omega))|refine stq ?_)
 all_goals(conv=>whnf)
 exact⟨[0],rfl,⟨by simp,λn=>.fn .nil (.cons (.ptr (by simp[sgn])) .nil),λn=>.cons (id:=0) (by simp[sgn]) rfl rfl (.cells (.cons (.same (aG v)) .nil) rfl) .nil⟩⟩
theorem quo8 {k e:Nat}(h:k<=e):Int.tdiv ((e:Int)-(k:Int)) 8=(((e-k) / 8:Nat):Int):=by
 rw[show(e:Int)-(k:Int)=((e-k:Nat):Int) by omega];rfl
theorem iv {k e:Nat}(h:k<=e):Int.tmod ((e:Int)-(k:Int)) 8=(((e-k) % 8:Nat):Int):=by
 rw[show(e:Int)-(k:Int)=((e-k:Nat):Int) by omega];rfl
theorem lX {k e:Nat}(h:k<=e) (h2:e-k<=100000):IntKind.wrap .i64 (Int.tdiv ((e:Int)-(k:Int)) 8)=(((e-k) / 8:Nat):Int):=by
 rw[quo8 h];exact DT om om
theorem ib (l t:List Int):((l.flatMap cI).drop 0).take (l.length*1)++t.map i64=(l++t).flatMap cI:=by
 rw[List.drop_zero,kE (by rw[aD,List.length_map];omega),List.flatMap_append];congr 1;exact(aD t).symm
theorem iy (l t:List Int):(l.length+t.length)*1<=(((l.flatMap cI).drop 0).take (l.length*1)++t.map i64).length:=by
 rw[ib,aD,List.length_map,kG];omega
theorem splN (A:List D) (k:Nat):splice A k (([]:List Int).map i64)=A:=by unfold splice;simp
theorem C8 (l:List Int) (w:Int) (k:Nat):(((splice (l.flatMap cI) k (([]:List Int).map i64)).drop 0).take ((l.length+([]:List Int).length)*1))++[i64 w]=(l++[]++[w]).flatMap cI:=by
 rw[splN,List.length_nil,Nat.add_zero,List.append_nil];exact ib l [w]
theorem ix (l:List Int) (k:Nat):(l.length+([]:List Int).length)*1<=(splice (l.flatMap cI) k (([]:List Int).map i64)).length:=by
 rw[splN,aD,List.length_map];simp
theorem iw (l:List Int):0+(l.length+([]:List Int).length)*1<=(l.flatMap cI).length:=by
 rw[aD,List.length_map];simp
theorem DA (l t:List Int) (w:Int):(((((l.flatMap cI).drop 0).take (l.length*1)++t.map i64).drop 0).take ((l.length+t.length)*1))++[i64 w]=(l++t++[w]).flatMap cI:=by
 rw[ib,<-kG];exact ib (l++t) [w]
theorem C9 (t:List Int) (w:Int):(((t.map i64).drop 0).take (t.length*1))++[i64 w]=(t++[w]).flatMap cI:=by
 have:=ib t [w]
 rw[aD] at this;exact this
noncomputable abbrev stP (v:List Int) (m:Int) (k:Nat) (acc:List Int):St:=⟨tmp 39 [(0,.yf 3),(1,.iptr [aE v]),(3,i64 (k:Int))],⟨5,bJ 4 cI acc++[(3,bE m v),(2,.dfr),(0,.cells [bG 4 1 acc] true),(1,.cells [i64 (k:Int)] true)]⟩⟩
noncomputable abbrev stQ (v:List Int) (m:Int) (k:Nat) (acc:List Int) (e:Nat):St:=⟨tmp 39 [(0,.yf 3),(1,.iptr [aE v]),(3,i64 (k:Int)),(4,i64 (e:Int))],⟨5,bJ 4 cI acc++[(3,bE m v),(2,.dfr),(0,.cells [bG 4 1 acc] true),(1,.cells [i64 (k:Int)] true)]⟩⟩
end Go.Proofs.YticpeeooobajgaaGreatDoor
