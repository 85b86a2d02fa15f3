/-
  The statements WrapErrors, WrapWhole, WrapLeast and WrapWide over data.
-/
import Derived.Test.YtpgcjpcenaefpaaGreatDoorWS
import Derived.Test.YtpgcjpcenaefpaaGreatDoorWN
import Derived.Test.YtpgcjpcenaefpaaGreatDoorWU
set_option linter.unusedSectionVars false
namespace Go.Proofs.YtpgcjpcenaefpaaGreatDoor
open Go Go.Am Classical
set_option maxRecDepth 100000
theorem xWT.rbX {p:Prop}(h:p:=by first|exact Rb.cells (Rds.same (cT _)) rfl|fail):p:=h
open xWT
theorem FD {g:FuncId}{x y z r:D}(h:@Pu gtR Tryz.prog g [x,y,z,aD []] r):@Pu gtR Tryz.prog g [x,y,z,aM] r:=by
 letI:=gtR
 exact h.args λc vs hv=>by
  obtain⟨v1,w1,rfl,a1,b1⟩:=hv.inv;obtain⟨v2,w2,rfl,a2,b2⟩:=b1.inv;obtain⟨v3,w3,rfl,a3,b3⟩:=b2.inv;obtain⟨v4,w4,rfl,a4,b4⟩:=b3.inv;exact VS.cons a1 (VS.cons a2 (VS.cons a3 (VS.cons (Fm a4) b4)))
theorem A4 {d:Db}{text:List Int}{m:Int}(ho:d.ok) (hs:SmD d) (hx:text.length<=40) (hb:¬(DbV d∧1<=m∧m<=1000)):∃ e:Int,e≠0∧(DbV d->e=1)∧(¬DbV d->e=11)∧@Pu gtR Tryz.prog 11 [dbD d,aD text,i64 m] (.tup [aM,i64 e])∧@Pu gtR Tryz.prog 19 [dbD d,aD text,i64 m] (.tup [aM,i64 0,i64 e])∧@Pu gtR Tryz.prog 21 [dbD d,aD text,i64 m,aM] (.tup [i64 0,i64 e]):=by
 letI:=gtR;by_cases hv:DbV d
 ·have hm:¬(1<=m∧m<=1000):=λh=>hb ⟨hv,h⟩
  have hp:=Dn (text:=text) ⟨ho,hs,hv⟩ om hm;exact⟨1,by decide,λ_=>rfl,λh=>absurd hv h,yB (by decide) hp,BG (by decide) hp,BF (.inr rfl) (by decide) hp⟩
 ·have hp:=Gb (text:=text) (m:=m) ho hs hv;exact⟨11,by decide,λh=>absurd h hv,λ_=>rfl,yB (by decide) hp,BG (by decide) hp,BF (.inr rfl) (by decide) hp⟩
set_option maxHeartbeats 8000000 in
theorem HX {d:Db}{text:List Int}{n:Int}(ho:d.ok) (_hx:text.length<=9223372036854775807) (_hn:-9223372036854775808<=n∧n<=9223372036854775807):@Pu gtR Tryz.prog 8 [dbD d,aD text,i64 n] (boo true):=by
 letI:=gtR;have hal:=ph;have hF:=pY (text:=text) (k:=40) ho;by_cases hf:SmD d∧(text.length:Int)<=40
 ·rw[decide_eq_true hf] at hF;obtain⟨hs,h40⟩:=hf;obtain⟨c,hC,hCi⟩:=ym ho hs;by_cases hg:DbV d∧1<=n∧n<=1000
  ·obtain⟨hv,hm⟩:=hg;obtain rfl:=hCi.2 hv;have g:Good d:=⟨ho,hs,hv⟩;have H:=g.lay (text:=text) (m:=n) om hm;have h1:=nD H hm;have h2:=zl H hm;have h3:=FD (kT H hm (l:=[]) si);have hn':(cS d text n).n=text.length:=rfl;by_cases h0:text.length=0
   ·have e:eW (cS d text n) 0 []=some 0:=by simp only[eW];rw[if_pos om]
    rw[e] at h3;generalize rgL 0 ((cS d text n).lin 0)=A at *;generalize rgL 0 ((cS d text n).bin 0)=B at *;generalize((cS d text n).B 0).2=b at *;refine pv Tryz.func8 ?_;repeat' ((conv=>whnf);first|exact kQ|(refine bk ?_ ?_<;>intro _<;>try(exfalso;omega))|refine stq ?_|refine cp hF ?_|refine cp h1 ?_|refine cp h2 ?_|refine cp h3 ?_|refine cp hC ?_|refine cp hal ?_|fail)
    all_goals(conv=>whnf)
    all_goals exact aC.same rfl rfl
   ·have e:eW (cS d text n) 0 []=none:=by simp only[eW];rw[if_neg om]
    rw[e] at h3;generalize rgL 0 ((cS d text n).lin 0)=A at *;generalize rgL 0 ((cS d text n).bin 0)=B at *;generalize((cS d text n).B 0).2=b at *;refine pv Tryz.func8 ?_;repeat' ((conv=>whnf);first|exact kQ|(refine bk ?_ ?_<;>intro _<;>try(exfalso;omega))|refine stq ?_|refine cp hF ?_|refine cp h1 ?_|refine cp h2 ?_|refine cp h3 ?_|refine cp hC ?_|refine cp hal ?_|fail)
    all_goals(conv=>whnf)
    all_goals exact aC.same rfl rfl
  ·obtain⟨e,he,he1,he2,h1,h2,h3⟩:=A4 (text:=text) ho hs om hg;by_cases hv:DbV d
   ·obtain rfl:=hCi.2 hv;obtain rfl:=he1 hv;have hm:¬(1<=n∧n<=1000):=λh=>hg ⟨hv,h⟩
    refine pv Tryz.func8 ?_;repeat' ((conv=>whnf);first|exact kQ|(refine bk ?_ ?_<;>intro _<;>try(exfalso;omega))|refine stq ?_|refine cp hF ?_|refine cp h1 ?_|refine cp h2 ?_|refine cp h3 ?_|refine cp hC ?_|refine cp hal ?_|fail)
    all_goals(conv=>whnf)
    all_goals exact aC.same rfl rfl
   ·have hc:c≠0:=λh=>hv (hCi.1 h)
    obtain rfl:=he2 hv;refine pv Tryz.func8 ?_;repeat' ((conv=>whnf);first|exact kQ|(refine bk ?_ ?_<;>intro _<;>try(exfalso;omega))|refine stq ?_|refine cp hF ?_|refine cp h1 ?_|refine cp h2 ?_|refine cp h3 ?_|refine cp hC ?_|refine cp hal ?_|fail)
    all_goals(conv=>whnf)
    all_goals exact aC.same rfl rfl
 ·rw[decide_eq_false hf] at hF;refine pv Tryz.func8 ?_;repeat' ((conv=>whnf);first|exact kQ|(refine bk ?_ ?_<;>intro _<;>try(exfalso;omega))|refine stq ?_|refine cp hF ?_|refine cp hal ?_|fail)
  all_goals(conv=>whnf)
  exact aC.same rfl rfl
set_option maxHeartbeats 8000000 in
theorem F8 {d:Db}{text:List Int}{n:Int}(ho:d.ok) (_hx:text.length<=9223372036854775807) (_hn:-9223372036854775808<=n∧n<=9223372036854775807):@Pu gtR Tryz.prog 6 [dbD d,aD text,i64 n] (boo true):=by
 letI:=gtR;have hal:=ph;have hF:=pY (text:=text) (k:=40) ho;by_cases hf:SmD d∧(text.length:Int)<=40
 ·rw[decide_eq_true hf] at hF;obtain⟨hs,h40⟩:=hf;by_cases hg:DbV d∧1<=n∧n<=1000
  ·obtain⟨hv,hm⟩:=hg;have g:Good d:=⟨ho,hs,hv⟩;have H:=g.lay (text:=text) (m:=n) om hm;have hok:=H.ok;have hd1:=pT hok;have hd2:=A3 hok;have hl1:=jH hok (Nat.zero_le _) hd1;have hl2:=jH hok (Nat.zero_le _) hd2;have hn':(cS d text n).n=text.length:=rfl;have h1:=nD H hm;have h2:=zl H hm;have e1:=j3 (P:=rgL 0 ((cS d text n).lin 0)) (by rw[fH];omega);have e2:=j3 (P:=rgL 0 ((cS d text n).bin 0)) (by rw[fH];omega);rw[oA] at e1 e2;have c1:=kT H hm (l:=up ((cS d text n).lin 0)) (by rw[uI];omega);have c2:=kT H hm (l:=up ((cS d text n).bin 0)) (by rw[uI];omega);rw[mw hok hd1] at c1;rw[mw hok hd2] at c2;have w1:=sR hok hd1 om;have w2:=sR hok hd2 om;rw[hn'] at w1 w2;generalize(cS d text n).sumD 0 ((cS d text n).lin 0)=s1 at *;generalize(cS d text n).sumD 0 ((cS d text n).bin 0)=s2 at *;generalize rgL 0 ((cS d text n).lin 0)=A at *;generalize rgL 0 ((cS d text n).bin 0)=B at *;generalize up ((cS d text n).lin 0)=uA at *;generalize up ((cS d text n).bin 0)=uB at *;generalize((cS d text n).B 0).2=b at *;refine pv Tryz.func6 ?_;repeat' ((conv=>whnf);first|exact kQ|(refine bk ?_ ?_<;>intro _<;>try(exfalso;omega))|refine stq ?_|refine cp hF ?_|refine cp h1 ?_|refine cp h2 ?_|refine cp e1 ?_|refine cp e2 ?_|refine cp c1 ?_|refine cp c2 ?_|refine cp w1 ?_|refine cp w2 ?_|refine cp hal ?_|fail)
   all_goals(conv=>whnf)
   all_goals exact aC.same rfl rfl
  ·obtain⟨e,he,_,_,h1,h2,_⟩:=A4 (text:=text) ho hs om hg;refine pv Tryz.func6 ?_;repeat' ((conv=>whnf);first|exact kQ|(refine bk ?_ ?_<;>intro _<;>try(exfalso;omega))|refine stq ?_|refine cp hF ?_|refine cp h1 ?_|refine cp h2 ?_|refine cp hal ?_|fail)
   all_goals(conv=>whnf)
   all_goals exact aC.same rfl rfl
 ·rw[decide_eq_false hf] at hF;refine pv Tryz.func6 ?_;repeat' ((conv=>whnf);first|exact kQ|(refine bk ?_ ?_<;>intro _<;>try(exfalso;omega))|refine stq ?_|refine cp hF ?_|refine cp hal ?_|fail)
  all_goals(conv=>whnf)
  exact aC.same rfl rfl
set_option maxHeartbeats 8000000 in
theorem Gy {d:Db}{text l:List Int}{n:Int}(ho:d.ok) (_hx:text.length<=9223372036854775807) (_hn:-9223372036854775808<=n∧n<=9223372036854775807) (_hl:l.length<=9223372036854775807):@Pu gtR Tryz.prog 7 [dbD d,aD text,i64 n,aD l] (boo true):=by
 letI:=gtR;have hal:=ph;have hF:=pY (text:=text) (k:=40) ho;by_cases hf:SmD d∧(text.length:Int)<=40
 ·rw[decide_eq_true hf] at hF;obtain⟨hs,h40⟩:=hf;by_cases hl:l.length<=40
  ·by_cases hg:DbV d∧1<=n∧n<=1000
   ·obtain⟨hv,hm⟩:=hg;have g:Good d:=⟨ho,hs,hv⟩;have H:=g.lay (text:=text) (m:=n) om hm;have hok:=H.ok;have hd1:=pT hok;have hd2:=A3 hok;have hl1:=jH hok (Nat.zero_le _) hd1;have hl2:=jH hok (Nat.zero_le _) hd2;have hn':(cS d text n).n=text.length:=rfl;have h1:=nD H hm;have h2:=zl H hm;have e1:=j3 (P:=rgL 0 ((cS d text n).lin 0)) (by rw[fH];omega);have e2:=j3 (P:=rgL 0 ((cS d text n).bin 0)) (by rw[fH];omega);rw[oA] at e1 e2;have c1:=kT H hm (l:=up ((cS d text n).lin 0)) (by rw[uI];omega);have c2:=kT H hm (l:=up ((cS d text n).bin 0)) (by rw[uI];omega);have c3:=kT H hm (l:=l) om;have hle:=aT.B_least hok hd1;have hb:=(aT.bin_ok hok (Nat.zero_le _)).2;rw[mw hok hd1] at c1;rw[mw hok hd2,hb] at c2;have hlz:=λs=>zV (l:=l) (s:=s) hok
    generalize eW (cS d text n) 0 l=z at *;clear hb;generalize(cS d text n).sumD 0 ((cS d text n).lin 0)=s1 at *;generalize rgL 0 ((cS d text n).lin 0)=A at *;generalize rgL 0 ((cS d text n).bin 0)=B at *;generalize up ((cS d text n).lin 0)=uA at *;generalize up ((cS d text n).bin 0)=uB at *;generalize((cS d text n).B 0).2=b at *;cases z with
    | none=>
     refine pv Tryz.func7 ?_;repeat' ((conv=>whnf);first|exact kQ|(refine bk ?_ ?_<;>intro _<;>try(exfalso;omega))|refine stq ?_|refine cp hF ?_|refine cp h1 ?_|refine cp h2 ?_|refine cp e1 ?_|refine cp e2 ?_|refine cp c1 ?_|refine cp c2 ?_|refine cp c3 ?_|refine cp hal ?_|fail)
     all_goals(conv=>whnf)
     all_goals first
      | exact aC.same rfl rfl
      | (exfalso;omega)
    | some z=>
     have hz:=hlz z rfl;refine pv Tryz.func7 ?_;repeat' ((conv=>whnf);first|exact kQ|(refine bk ?_ ?_<;>intro _<;>try(exfalso;omega))|refine stq ?_|refine cp hF ?_|refine cp h1 ?_|refine cp h2 ?_|refine cp e1 ?_|refine cp e2 ?_|refine cp c1 ?_|refine cp c2 ?_|refine cp c3 ?_|refine cp hal ?_|fail)
     all_goals(conv=>whnf)
     all_goals first
      | exact aC.same rfl rfl
      | (exfalso;omega)
   ·obtain⟨e,he,_,_,h1,h2,_⟩:=A4 (text:=text) ho hs om hg;refine pv Tryz.func7 ?_;repeat' ((conv=>whnf);first|exact kQ|(refine bk ?_ ?_<;>intro _<;>try(exfalso;omega))|refine stq ?_|refine cp hF ?_|refine cp h1 ?_|refine cp h2 ?_|refine cp hal ?_|fail)
    all_goals(conv=>whnf)
    all_goals exact aC.same rfl rfl
  ·skip
   refine pv Tryz.func7 ?_;repeat' ((conv=>whnf);first|exact kQ|(refine bk ?_ ?_<;>intro _<;>try(exfalso;omega))|refine stq ?_|refine cp hF ?_|refine cp hal ?_|fail)
   all_goals(conv=>whnf)
   all_goals first
    | exact aC.same rfl rfl
    | (exfalso;omega)
 ·rw[decide_eq_false hf] at hF;refine pv Tryz.func7 ?_;repeat' ((conv=>whnf);first|exact kQ|(refine bk ?_ ?_<;>intro _<;>try(exfalso;omega))|refine stq ?_|refine cp hF ?_|refine cp hal ?_|fail)
  all_goals(conv=>whnf)
  exact aC.same rfl rfl
set_option maxHeartbeats 16000000 in
theorem F7 {d:Db}{text:List Int}{n:Int}(ho:d.ok) (_hx:text.length<=9223372036854775807) (_hn:-9223372036854775808<=n∧n<=9223372036854775807):@Pu gtR Tryz.prog 4 [dbD d,aD text,i64 n] (boo true):=by
 letI:=gtR;have hal:=ph;have hF:=pY (text:=text) (k:=40) ho;by_cases hf:SmD d∧(text.length:Int)<=40
 ·rw[decide_eq_true hf] at hF;obtain⟨hs,h40⟩:=hf;by_cases hg:DbV d∧1<=n∧n<=1000
  ·obtain⟨hv,hm⟩:=hg;have g:Good d:=⟨ho,hs,hv⟩;have H:=g.lay (text:=text) (m:=n) om hm;have hok:=H.ok;have hl1:=jH hok (Nat.zero_le _) (pT hok);have hn':=H.n;have h1:=nD H hm;have hO:=H.opp;have hP:=H.par;have hOl:=H.lenO;have hpl:=my H.chn;have hE:=j3 (P:=lH d text) om;have hEl:(gZ (lH d text)).length<=1000:=by simp only[gZ,List.length_map];omega
   have hWf:=λi (h:i<(rgL 0 ((cS d text n).lin 0)).length)=>BP H rfl h
   have hW:=λa b h1 h2 h3 h4=>BO H (a:=a) (b:=b) h1 h2 h3 h4
   have hAm:=λx:Int=>Ck (l:=gZ (lH d text)) (x:=x) om
   have hRl:=fH ((cS d text n).lin 0) 0;generalize rgL 0 ((cS d text n).lin 0)=R at *;generalize cS d text n=L at *;generalize gZ (lH d text)=E at *;generalize Bp d text=O at *;generalize lH d text=P at *;refine pv Tryz.func4 ?_;repeat' ((conv=>whnf);first|exact kQ|(refine bk ?_ ?_<;>intro _<;>try(exfalso;omega))|refine stq ?_|refine cp hF ?_|refine cp h1 ?_|refine cp hO ?_|refine cp hP ?_|refine cp hE ?_|fail)
   refine aH.by aB T0 (λi:Nat=>⟨tmp 165 [(1,aD text),(2,i64 n),(3,.ptr 0 0),(7,bB R),(9,aD O),(13,aD E),(14,i64 (i:Int))],⟨1,[(0,.cells (dbC d) true)]⟩⟩) (λi=>i<=R.length) (λi=>R.length-i) 0 om ?_ ?_
   ·exact lq [(0,_)] []
   intro i h3;by_cases hi:i<R.length
   ·obtain⟨s,e,r1,r2,r3,r4,r5,r6,r7⟩:=hWf i hi;have hw:=hW s e r2 r3 r4 r5;have hrl:R[i].lo=(s:Int):=by rw[r1]
    have hrh:R[i].hi=(e:Int):=by rw[r1]
    rw[<-hrl,<-hrh] at hw;by_cases hwide:n<L.w s e
    ·have r6':=r6 hwide;clear r6 r7 hWf hW;generalize L.w s e=w at *;repeat' ((conv=>whnf);first|exact kQ|(refine bk ?_ ?_<;>intro _<;>try(exfalso;omega))|refine stq ?_|refine ac.by aB T0 [0,0,3,7,15,31,63,127,127,511,1023,2047,127,4223,16383,32767,65535,131071,131071,524287,1048575,2097151,131071,131071,12713983,29491199,63045631,134217727,268435455] (by kernel_rfl) ?_|refine ac.by aB T0 [0,0,0,0,12,28,63,0,255,511] (by kernel_rfl) ?_|refine cp hw ?_|fail)
     refine aH.by aB T0 (λk:Nat=>⟨tmp 165 [(1,aD text),(2,i64 n),(3,.ptr 0 0),(7,bB R),(9,aD O),(13,aD E),(14,i64 (i:Int)),(15,boo true),(16,i64 (k:Int))],⟨1,[(0,.cells (dbC d) true)]⟩⟩)
      (λk=>k<=O.length) (λk=>O.length-k) 0 om ?_ ?_
     ·exact lq [(0,_)] []
     intro k h4;by_cases hk:k<O.length
     ·have hx:=r6' O[k] (kM hk);repeat' ((conv=>whnf);first|exact kQ|(refine bk ?_ ?_<;>intro _<;>try(exfalso;omega))|refine stq ?_|refine ac.by aB T0 [0,0,3,7,0,0,48,112,240,511,1023,2047,2047,8191,16383,2047,2047,100351,231423,493567,1048575,2097151] (by kernel_rfl) ?_|fail)
      all_goals(conv=>whnf)
      all_goals first
       | (exfalso;omega)
       | (refine⟨k+1,by omega,by omega,?_⟩
          exact lq [(0,_)] [])
     ·repeat' ((conv=>whnf);first|refine Idx.atS (c:=bX) (sz:=2) (by intro _;rfl) (l:=R) (i+1) om om ?_|exact kQ|(refine bk ?_ ?_<;>intro _<;>try(exfalso;omega))|refine stq ?_|refine ac.by aB T0 [0,1,3,7,15,7,39,127,255,511,1023,1023,1023,7167,15359,31743,65535,131071,262143,524287,1048575,1048575,1048575,1048575,13631487,30408703,63963135,1048575,1048575,269484031,940572671,2014314495,4161798143,8586788863,17179869183,1048575,68719476735,137438953471] (by kernel_rfl) ?_|fail)
      all_goals(conv=>whnf)
      refine⟨i+1,by omega,by omega,?_⟩;exact lq [(0,_)] []
    ·have r7':=r7 hwide;clear r6 r7;have hnw:¬n<L.w s e:=hwide;generalize hww:L.w s e=w at hw hnw;repeat' ((conv=>whnf);first|exact kQ|(refine bk ?_ ?_<;>intro _<;>try(exfalso;omega))|refine stq ?_|refine ac.by aB T0 [0,0,3,7,15,31,63,127,127,511,1023,2047,127,4223,16383,32767,65535,131071,131071,524287,1048575,2097151,131071,131071,12713983,29491199,63045631,134217727,268435455] (by kernel_rfl) ?_|refine ac.by aB T0 [0,0,0,0,12,28,63,0,255,511] (by kernel_rfl) ?_|refine cp hw ?_|fail)
     refine aH.by aB T0 (λk:Nat=>⟨tmp 165 [(1,aD text),(2,i64 n),(3,.ptr 0 0),(7,bB R),(9,aD O),(13,aD E),(14,i64 (i:Int)),(15,boo false),(16,i64 (k:Int))],⟨1,[(0,.cells (dbC d) true)]⟩⟩)
      (λk=>k=0) (λ_=>0) 0 rfl ?_ ?_
     ·exact lq [(0,_)] []
     intro k hk0;have hA:=hAm R[i].hi;by_cases hn2:i+1<R.length
     ·by_cases hst:(e:Int)∈E
      ·rw[decide_eq_true (by rw[hrh];exact hst)] at hA;repeat' ((conv=>whnf);first|refine Idx.atS (c:=bX) (sz:=2) (by intro _;rfl) (l:=R) (i+1) om om ?_|exact kQ|(refine bk ?_ ?_<;>intro _<;>try(exfalso;omega))|refine stq ?_|refine ac.by aB T0 [0,1,3,7,15,7,39,127,255,511,1023,1023,1023,7167,15359,31743,65535,131071,262143,524287,1048575,1048575,1048575,1048575,13631487,30408703,63963135,1048575,1048575,269484031,940572671,2014314495,4161798143,8586788863,17179869183,1048575,68719476735,137438953471] (by kernel_rfl) ?_|refine cp hA ?_|fail)
       all_goals(conv=>whnf)
       refine⟨i+1,by omega,by omega,?_⟩;exact lq [(0,_)] []
      ·rw[decide_eq_false (by rw[hrh];exact hst)] at hA;obtain⟨e2,t1,t2,t3,t4,t5⟩:=r7' hn2 hst;have hw2:=hW s e2 r2 t2 t3 t4;have hr2:R[i+1].hi=(e2:Int):=by rw[t1]
       rw[<-hrl,<-hr2] at hw2;generalize L.w s e2=w2 at *;repeat' ((conv=>whnf);first|refine Idx.atS (c:=bX) (sz:=2) (by intro _;rfl) (l:=R) (i+1) om om ?_|exact kQ|(refine bk ?_ ?_<;>intro _<;>try(exfalso;omega))|refine stq ?_|refine ac.by aB T0 [0,1,3,7,15,7,39,127,255,511,1023,1023,1023,7167,15359,31743,65535,131071,262143,524287,1048575,1048575,1048575,1048575,13631487,30408703,63963135,1048575,1048575,269484031,940572671,2014314495,4161798143,8586788863,17179869183,1048575,68719476735,137438953471] (by kernel_rfl) ?_|refine cp hA ?_|refine cp hw2 ?_|fail)
       all_goals(conv=>whnf)
       refine⟨i+1,by omega,by omega,?_⟩;exact lq [(0,_)] []
     ·repeat' ((conv=>whnf);first|refine Idx.atS (c:=bX) (sz:=2) (by intro _;rfl) (l:=R) (i+1) om om ?_|exact kQ|(refine bk ?_ ?_<;>intro _<;>try(exfalso;omega))|refine stq ?_|refine ac.by aB T0 [0,1,3,7,15,7,39,127,255,511,1023,1023,1023,7167,15359,31743,65535,131071,262143,524287,1048575,1048575,1048575,1048575,13631487,30408703,63963135,1048575,1048575,269484031,940572671,2014314495,4161798143,8586788863,17179869183,1048575,68719476735,137438953471] (by kernel_rfl) ?_|fail)
      all_goals(conv=>whnf)
      refine⟨i+1,by omega,by omega,?_⟩;exact lq [(0,_)] []
   ·repeat' ((conv=>whnf);first|exact kQ|(refine bk ?_ ?_<;>intro _<;>try(exfalso;omega))|refine stq ?_|refine cp hal ?_|fail)
    all_goals(conv=>whnf)
    exact aC.same rfl rfl
  ·obtain⟨e,he,_,_,h1,_,_⟩:=A4 (text:=text) ho hs om hg;refine pv Tryz.func4 ?_;repeat' ((conv=>whnf);first|exact kQ|(refine bk ?_ ?_<;>intro _<;>try(exfalso;omega))|refine stq ?_|refine cp hF ?_|refine cp h1 ?_|refine cp hal ?_|fail)
   all_goals(conv=>whnf)
   all_goals exact aC.same rfl rfl
 ·rw[decide_eq_false hf] at hF;refine pv Tryz.func4 ?_;repeat' ((conv=>whnf);first|exact kQ|(refine bk ?_ ?_<;>intro _<;>try(exfalso;omega))|refine stq ?_|refine cp hF ?_|refine cp hal ?_|fail)
  all_goals(conv=>whnf)
  exact aC.same rfl rfl
end Go.Proofs.YtpgcjpcenaefpaaGreatDoor
