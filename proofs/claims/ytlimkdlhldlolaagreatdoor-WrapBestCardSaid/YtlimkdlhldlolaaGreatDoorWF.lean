/-
  Contracts of functions over data: the layout of a text (the program).
-/
import Derived.Test.YtlimkdlhldlolaaGreatDoorWC
set_option linter.unusedSectionVars false
namespace Go.Proofs.YtlimkdlhldlolaaGreatDoor
open Go Go.Am Classical
set_option maxRecDepth 100000
theorem xWF.rdX {p:Prop}(h:p:=by first|exact Rd.sl' rfl om om|exact Rd.sl' rfl rfl rfl|exact Rd.int om|fail):p:=h
theorem xWF.rbX {p:Prop}(h:p:=by first|exact rbP rfl rfl|exact Rb.cells (Rds.same (ab (λ_=>rfl))) rfl|exact Rb.cells (Rds.eqs (a8 om (λi _=>by first|(simp;done)|fail)) (ab (λ_=>rfl))) rfl|exact Rb.cells (Rds.eqs (bG (by first|(dsimp only;rw[xP hk,if_pos om];done)|fail) (λi _ hi=>by first|(dsimp only;rw[xP hk,if_neg om];done)|fail)) (ab (λ_=>rfl))) rfl|exact Rb.cells (Rds.eqs (bo (λi _=>by first|(simp;done)|fail)) (ab (λ_=>rfl))) rfl|exact Rb.cells (Rds.eqs (bo (λi _=>by first|(dsimp only;rw[DH,if_neg om];done)|fail)) (ab (λ_=>rfl))) rfl|exact Rb.cells (Rds.eqs (bG (by first|(dsimp only;rw[uG hi,if_pos om];done)|fail) (λq _ hq=>by first|(dsimp only;rw[uG hi,if_neg om];done)|fail)) (ab (λ_=>rfl))) rfl|exact Rb.cells (Rds.eqs (bo (λq _=>by first|(dsimp only;exact vN om;done)|fail)) (ab (λ_=>rfl))) rfl|exact Rb.cells (Rds.eqs (bG (by first|(dsimp only;rw[if_pos om,hl2];exact congrArg i64 om;done)|fail) (λq _ hq=>by first|(dsimp only;exact vN om;done)|fail)) (ab (λ_=>rfl))) rfl|exact Rb.cells (Rds.eqs (bo (λq _=>by first|(dsimp only;exact vN (by first|(rw[hge];omega;done)|fail);done)|fail)) (ab (λ_=>rfl))) rfl|fail):p:=h
open xWF
theorem frz_bl [GT] {h:aA}{fz:Nat->Bool}{σ:Nat->Option Nat}{id n cap:Nat}{b:List Bool}{cs:List D}{ex bx:Bool}(hf:fz id=true) (hg:h.get id=some (.cells cs bx)) (ec:cs=b.map boo) (e:n=b.length):Rd h fz σ (.sl id 0 n cap 1 ex) (ap b):=by
 subst e;subst ec;refine .frz hf hg si (.eqs ?_ (aU (λ_=>rfl) _));rw[List.drop_zero,kE si]
theorem vN {p q:Prop}{_:Decidable p}{_:Decidable q}{x y:Int}(h:p↔q):i64 (if p then x else y)=i64 (if q then x else y):=by
 by_cases hp:p
 .rw[if_pos hp,if_pos (h.1 hp)]
 .rw[if_neg hp,if_neg (λhq=>hp (h.2 hq))]
abbrev Ep (d:Db) (text:List Int) (m:Int) (f:Nat->Bool) (g:Nat->Int):List (Nat×Box):=[(0,.cells (dbC d++[aC text,i64 m,.sl 1 0 (text.length+1) (text.length+1) 1 true,.sl 2 0 text.length text.length 1 true]) true),(1,.cells (aT (text.length+1) λj=>boo (f j)) true),(2,.cells (aT text.length λj=>i64 (g j)) true)]
theorem rbP [GT] {h:aA}{fz:Nat->Bool}{σ:Nat->Option Nat}{d:Db}{text:List Int}{m:Int}{n1 n2:Nat}(h1:σ 1=some 1) (h2:σ 2=some 2):Rb h fz σ (.cells (dbC d++[aC text,i64 m,.sl 1 0 n1 n1 1 true,.sl 2 0 n2 n2 1 true]) true) (.cells (dbC d++[aC text,i64 m,.sl 1 0 n1 n1 1 true,.sl 2 0 n2 n2 1 true]) true):=
 .cells (Rds.app (.same (cV d)) (.cons (.same (aM _)) (.cons (.same rfl) (.cons (.sl h1) (.cons (.sl h2) .nil))))) rfl
theorem DU [GT] {O:List Int}{P:List Rng}{n:Nat}:(aT (n+1) λj=>boo (decide ((j:Int)∈O\/∃ r∈P,r.hi=(j:Int))))=(jx n O P).map boo:=by
 rw[jx,List.map_map];rfl
theorem zy [GT] {P:List Rng}{n:Nat}(hc:Chn 0 P n):(aT n λj=>i64 (if(j:Int)<mV 0 P P.length then(bw P j:Int) else 0))=(dw n P).map i64:=by
 rw[dw,List.map_map];refine bo λj hj=>?_
 simp only[Function.comp];rw[yJ hc (kP _),if_pos om]
set_option maxHeartbeats 16000000 in
theorem qa {d:Db}{text:List Int}{m:Int}{L:aZ}{O:List Int}{P:List Rng}(H:sB d text m L O P) (hm:1<=m/\m<=1000):@Pu gtR Tryz.prog 13 [dbD d,aC text,i64 m] (.tup [.iptr (lZ d text m O P),i64 0]):=by
 letI:=gtR;have hO:=H.opp;have hP:=H.par;have hx:=H.len;have hlO:=H.lenO;have hc:=H.chn;have hpl:=gD hc;have hon:=H.onl;refine pv Tryz.func13 ?_;repeat' ((conv=>whnf);first|exact kQ|(refine bk ?_ ?_<;>intro _<;>try exact exo)|refine stq ?_|refine cp hO ?_|refine cp hP ?_|fail)
 refine aG.by aB T0 (λk:Nat=>⟨tmp 103 [(10,ax P),(11,.ptr 0 0),(59,aC O),(60,i64 O.length),(61,i64 (k:Int))],⟨3,Ep d text m (λj=>decide ((j:Int)∈O.take k)) (λ_=>0)⟩⟩)
  (λk=>k<=O.length) (λk=>O.length-k) 0 om ?_ ?_
 .exact lq [(0,_),(1,_),(2,_)] []
 intro k h3;by_cases hk:k<O.length
 .have hx1:=hon O[k] (kM hk);repeat' ((conv=>whnf);first|exact kQ|(refine bk ?_ ?_<;>intro _<;>try exact exo)|refine stq ?_|refine bT.at O[k].toNat om om ?_|refine Put.one (by simp;omega) ?_|fail)
  (conv=>whnf)
  refine⟨k+1,om,om,?_⟩;exact lq [(0,_),(1,_),(2,_)] []
 obtain rfl:k=O.length:=by omega
 rw[List.take_length];repeat' ((conv=>whnf);first|exact kQ|(refine bk ?_ ?_<;>intro _<;>try exact exo)|refine stq ?_|fail)
 refine aG.by aB T0 (λi:Nat=>⟨tmp 103 [(11,.ptr 0 0),(72,ax P),(73,i64 P.length),(74,i64 (i:Int))],⟨3,Ep d text m (λj=>decide ((j:Int)∈O\/∃ r∈P.take i,r.hi=(j:Int))) (λj=>if(j:Int)<mV 0 P i then(bw P j:Int) else 0)⟩⟩)
  (λi=>i<=P.length) (λi=>P.length-i) 0 om ?_ ?_
 .exact lq [(0,_),(1,_),(2,_)] []
 intro i h4;by_cases hi:i<P.length
 .have hat:=vh hi hc;have hle:=(pm i hc).1;have hge:=re (s:=0) hi;have hlp:=λq (h1:P[i].lo<=((q:Nat):Int)) (h2:(q:Int)<P[i].hi)=>xj hc hi h1 h2
  repeat' ((conv=>whnf);first|exact kQ|(refine bk ?_ ?_<;>intro _<;>try exact exo)|refine stq ?_|refine ac.by aB T0 [0,1,3,7,0,16,63,127] (by kernel_rfl) ?_|refine bT.at P[i].hi.toNat om om ?_|refine Put.one (by simp;omega) ?_|fail)
  refine aG.by aB T0 (λj:Nat=>⟨tmp 103 [(11,.ptr 0 0),(15,.ptr 3 0),(16,i64 (j:Int)),(72,ax P),(73,i64 P.length),(74,i64 (i:Int))],⟨4,(3,.cells [i64 P[i].lo,i64 P[i].hi] true)::Ep d text m (λj=>decide ((j:Int)∈O\/∃ r∈P.take (i+1),r.hi=(j:Int))) (λq=>if(q:Int)<j then(bw P q:Int) else 0)⟩⟩)
   (λj=>P[i].lo<=(j:Int)/\(j:Int)<=P[i].hi) (λj=>P[i].hi.toNat-j) P[i].lo.toNat ⟨om,om⟩ ?_ ?_
  .exact lq [(0,_),(1,_),(2,_),(3,_)] []
  intro j ⟨h5,h6⟩;by_cases hj:(j:Int)<P[i].hi
  .have hl2:=hlp j h5 hj;repeat' ((conv=>whnf);first|exact kQ|(refine bk ?_ ?_<;>intro _<;>try exact exo)|refine stq ?_|refine ac.by aB T0 [0,1,3,7,0,0,32,127,255] (by kernel_rfl) ?_|refine bT.at j rfl om ?_|refine Put.one (by simp;omega) ?_|fail)
   (conv=>whnf)
   refine⟨j+1,⟨om,om⟩,om,?_⟩;exact lq [(0,_),(1,_),(2,_),(3,_)] []
  .repeat' ((conv=>whnf);first|exact kQ|(refine bk ?_ ?_<;>intro _<;>try exact exo)|refine stq ?_|fail)
   (conv=>whnf)
   refine⟨i+1,om,om,?_⟩;exact lq [(0,_),(1,_),(2,_)] []
 obtain rfl:i=P.length:=by omega
 rw[List.take_length];repeat' ((conv=>whnf);first|exact kQ|(refine bk ?_ ?_<;>intro _<;>try exact exo)|refine stq ?_|fail)
 (conv=>whnf)
 exact⟨.tup (.cons (.frzp rfl rfl (Rds.app (.same (cV d)) (.cons (.same (aM _)) (.cons (.same rfl) (.cons (frz_bl (b:=jx text.length O P) rfl rfl DU (nZ _ _ _).symm) (.cons (lv (b:=dw text.length P) rfl rfl (zy hc) (iy _ _).symm) .nil)))))) (.cons (.same rfl) .nil))⟩
end Go.Proofs.YtlimkdlhldlolaaGreatDoor
