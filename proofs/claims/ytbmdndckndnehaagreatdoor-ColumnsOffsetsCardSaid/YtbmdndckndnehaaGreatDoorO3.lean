/-
  Layer 35, plain: the columns of a text and of its elements; what fits.
-/
import Derived.Test.YtbmdndckndnehaaGreatDoorO0
import Derived.Test.YtbmdndckndnehaaGreatDoorL8
import Derived.Test.YtbmdndckndnehaaGreatDoorL6
import Derived.Test.YtbmdndckndnehaaGreatDoorO4
set_option linter.unusedSectionVars false
namespace Go.Proofs.YtbmdndckndnehaaGreatDoor
section
open Go Go.Am Classical
set_option maxRecDepth 1000000
noncomputable def iZ (p:Prp):List Int->Int
 | []=>0
 | c::l=>cL p c+iZ p l
theorem rR (p:Prp):∀ a b:List Int,iZ p (a++b)=iZ p a+iZ p b
 | [],b=>by simp[iZ]
 | c::a,b=>by simp only[List.cons_append,iZ,rR p a b];omega
theorem mY (p:Prp):∀ l:List Int,0<=iZ p l∧iZ p l<=2*l.length
 | []=>by simp[iZ]
 | c::l=>by
  have h1:=mY p l;have h2:=cK p c;simp only[iZ,kO];omega
theorem r6 (p:Prp) (c:Int) (l:List Int):mxW p (c::l)=max (cL p c) (mxW p l):=by
 have h:∀ (l:List Int) (m:Int),0<=m->l.foldl (λm c=>max m (cL p c)) m=max m (mxW p l):=by
  intro l
  induction l with
  | nil=>intro m h;simp[mxW];omega
  | cons c l ih=>
   intro m h;have h1:=cK p c;rw[List.foldl_cons,ih _ om];rw[show mxW p (c::l)=l.foldl (λm c=>max m (cL p c)) (max 0 (cL p c)) from rfl,ih _ om];omega
 have h1:=cK p c;rw[show mxW p (c::l)=l.foldl (λm c=>max m (cL p c)) (max 0 (cL p c)) from rfl,h _ _ om];omega
theorem BZ (p:Prp):∀ a b:List Int,mxW p (a++b)=max (mxW p a) (mxW p b)
 | [],b=>by have:=eP p b;simp[show mxW p []=0 from rfl];omega
 | c::a,b=>by rw[List.cons_append,r6,r6,BZ p a b];omega
theorem BX (p:Prp):∀ l:List Int,mxW p l<=iZ p l
 | []=>by simp[mxW,iZ]
 | c::l=>by
  have h1:=BX p l;have h2:=cK p c;have h3:=mY p l;rw[r6];simp only[iZ];omega
theorem Ct {text:List Int}{a b c:Int}(h0:0<=a) (h1:a<=b) (h2:b<=c):pce text a c=pce text a b++pce text b c:=by
 unfold pce;rw[show(c-a).toNat=(b-a).toNat+(c-b).toNat by omega,List.take_add,List.drop_drop,show a.toNat+(b-a).toNat=b.toNat by omega]
theorem rQ {p:Prp}{text:List Int}:∀ {P:List Rng}{s e:Int},Chn s P e->0<=s->bQ p text P<=iZ p (pce text s e)∧mxW p (pce text s e)<=bQ p text P
 | [],s,e,h,h0=>by
  rw[show s=e from h];simp[pce,bQ,iZ,mxW]
 | r::P,s,e,h,h0=>by
  have h1:=h.1;have h2:=h.2.1;have h3:=pQ h.2.2;have ih:=rQ (p:=p) (text:=text) h.2.2 om;have h4:=BX p (pce text r.lo r.hi);have h5:=dH p text r;have h6:=cY p text P;rw[Ct (text:=text) (b:=r.hi) om om h3,rR,BZ];rw[show s=r.lo by omega];simp only[bQ,dI] at *;omega
theorem Ae {p:Prp}{text:List Int}{P:List Rng}(h:Chn 0 P text.length):bQ p text P<=iZ p text∧mxW p text<=bQ p text P:=by
 have:=rQ (p:=p) (text:=text) h (Int.le_refl _)
 rwa [show pce text 0 text.length=text by simp[pce]] at this
theorem E9 {text:List Int}{lo hi a:Int}(h0:0<=lo) (h1:hi<=a):pce (text.take a.toNat) lo hi=pce text lo hi:=by
 unfold pce;rw[List.drop_take,List.take_take,show min (hi-lo).toNat (a.toNat-lo.toNat)=(hi-lo).toNat by omega]
theorem tk {p:Prp}{text:List Int}{a:Int}:∀ {P:List Rng}{s e:Int},Chn s P e->0<=s->e<=a->bQ p (text.take a.toNat) P=bQ p text P
 | [],s,e,_,_,_=>rfl
 | r::P,s,e,h,h0,h1=>by
  have h2:=h.1;have h3:=h.2.1;have h4:=pQ h.2.2;simp only[bQ,dI,E9 (text:=text) (lo:=r.lo) (hi:=r.hi) (a:=a) om om,tk (a:=a) h.2.2 om h1]
end
section
open Go Go.Am
set_option maxRecDepth 1000000
abbrev vG:Prp:=⟨[[78],[90,101,114,111],[87,105,100,101]],[⟨769,769,1⟩,⟨12354,12354,2⟩]⟩
abbrev yG:Prp:=⟨[[79,116,104,101,114],[69,120,116,101,110,100]],[⟨769,769,1⟩]⟩
abbrev exD:Db:=⟨0,0,FB,vG,FB,yG,FB,FB,FB,[],[],[],[],[],[],[],[],[],[],[],[],[]⟩
theorem ex_c:@Pu gtR Tryz.prog 50 [] (dbD exD):=by
 letI:=gtR;exact Pu.of_t aB T0 iO rfl (by kernel_rfl:fx gtR Tryz.prog (fD Tryz.prog) spC 100 (.fn 50) [] .emp 0 (λd1 h1 _=>ek h1 100000 d1 (dbD exD))=true)
theorem F6:@Pu gtR Tryz.prog 51 [dbD exD] (i64 0):=by
 letI:=gtR;exact Pu.of_t aB T0 iO (by kernel_rfl) (by kernel_rfl:fx gtR Tryz.prog (fD Tryz.prog) spC 1000 (.fn 51) [dbD exD] .emp 0 (λd1 h1 _=>ek h1 100000 d1 (i64 0))=true)
theorem o7:∀ k,k<7->(prop exD k).names.length<=30∧(prop exD k).spans.length<=16:=λk hk=>by
 rcases(by omega:k=0∨k=1∨k=2∨k=3∨k=4∨k=5∨k=6) with rfl|rfl|rfl|rfl|rfl|rfl|rfl
 all_goals exact⟨by decide,by decide⟩
theorem Ib {text A:List Int}{P:List Rng}(ha:@Pu gtR Tryz.prog 67 [bn yG,mJ,aD text] (aD A)) (hl:A.length<=1001) (hP:ptV A=P):@Pu gtR Tryz.prog 17 [dbD exD,i64 1,aD text] (.tup [a7 P,i64 0]):=by
 letI:=gtR;have hd:=yU (d:=exD) (k:=1) (t:=t1) (.inl rfl) o7 F6 JO;have e:mJ=iM t1:=by rw[t1,<-EL]
 rw[e] at ha;rw[<-hP];exact ye hd (CI ha hl)
end
section
open Go Go.Am Classical
set_option maxRecDepth 100000
theorem ja {d:Db}{text:List Int}{e:Int}(h0:e≠0) (hP:@Pu gtR Tryz.prog 17 [dbD d,i64 1,aD text] (.tup [aJ,i64 e])):@Pu gtR Tryz.prog 56 [dbD d,aD text] (.tup [.v .nilFunc,i64 e]):=by
 letI:=gtR;refine pv Tryz.func56 ?_;repeat' ((conv=>whnf);first|exact kQ|(refine bk ?_ ?_<;>intro _<;>try(exfalso;omega))|refine stq ?_|refine cp hP ?_|fail)
 all_goals(conv=>whnf)
 exact⟨Rd.eqd rfl rfl⟩
theorem oI {d:Db}{text:List Int}  (ho:d.ok) (hs:SmD d) (hv:¬DbV d):@Pu gtR Tryz.prog 26 [dbD d,aD text] (.tup [i64 0,i64 11]):=by
 letI:=gtR;have h1:=ja (by decide) (bad1 (k:=1) (x:=aD text) ho hs hv (aI _));refine pv Tryz.func26 ?_;repeat' ((conv=>whnf);first|exact kQ|(refine bk ?_ ?_<;>intro _<;>try(exfalso;omega))|refine stq ?_|refine cp h1 ?_|refine Fw.split ?_|refine Fw.scope ?_|refine Fw.step aB T0 ?_|fail)
 all_goals(conv=>whnf)
 all_goals exact⟨Rd.eqd rfl rfl⟩
theorem HA {d:Db}{text:List Int}{n:Int}(ho:d.ok) (hs:SmD d) (hv:¬DbV d):@Pu gtR Tryz.prog 30 [dbD d,aD text,i64 n] (.tup [i64 0,i64 11]):=by
 letI:=gtR;have h1:=ja (by decide) (bad1 (k:=1) (x:=aD text) ho hs hv (aI _));refine Pu.of_fw (ti:=fD Tryz.prog) Tryz.func30 rfl rfl (by simp[aN,aE,aP,aW,az,ad,aI]) ?_;repeat' ((conv=>whnf);first|exact kQ|(refine bk ?_ ?_<;>intro _<;>try(exfalso;omega))|refine stq ?_|refine cp h1 ?_|refine Fw.split ?_|refine Fw.scope ?_|refine Fw.step aB T0 ?_|fail)
 all_goals(conv=>whnf)
 all_goals exact⟨Rd.eqd rfl rfl⟩
theorem D1 {d:Db}{text:List Int}{n:Int}(ho:d.ok) (hs:SmD d) (hv:¬DbV d):@Pu gtR Tryz.prog 31 [dbD d,aD text,i64 n] (.tup [i64 0,i64 11]):=by
 letI:=gtR;have h1:=ja (by decide) (bad1 (k:=1) (x:=aD text) ho hs hv (aI _));refine Pu.of_fw (ti:=fD Tryz.prog) Tryz.func31 rfl rfl (by simp[aN,aE,aP,aW,az,ad,aI]) ?_;repeat' ((conv=>whnf);first|exact kQ|(refine bk ?_ ?_<;>intro _<;>try(exfalso;omega))|refine stq ?_|refine cp h1 ?_|refine Fw.split ?_|refine Fw.scope ?_|refine Fw.step aB T0 ?_|fail)
 all_goals(conv=>whnf)
 all_goals exact⟨Rd.eqd rfl rfl⟩
theorem Pad_no {d:Db}{text:List Int}{n:Int}{r:Bool}(ho:d.ok) (hs:SmD d) (hv:¬DbV d):@Pu gtR Tryz.prog 28 [dbD d,aD text,i64 n,boo r] (.tup [aJ,i64 11]):=by
 letI:=gtR;have h1:=oI (text:=text) ho hs hv;refine pv Tryz.func28 ?_;repeat' ((conv=>whnf);first|exact kQ|(refine bk ?_ ?_<;>intro _<;>try(exfalso;omega))|refine stq ?_|refine cp h1 ?_|fail)
 all_goals(conv=>whnf)
 exact⟨Rd.eqd rfl rfl⟩
theorem Good.width {d:Db}(g:Good d){text:List Int}(hx:text.length<=1000):@Pu gtR Tryz.prog 26 [dbD d,aD text] (.tup [i64 (bQ d.wid text (gP d text)),i64 0]):=
 wl g.code (λk hk=>g.sm.2.1 k hk) (g.p1 hx) (gu d text) hx
theorem Good.fit {d:Db}(g:Good d){text:List Int}{n:Int}(hx:text.length<=1000) (hn:0<=n∧n<=9223372036854775807):@Pu gtR Tryz.prog 30 [dbD d,aD text,i64 n] (.tup [i64 (b6 0 (gP d text) (bT d.wid text n 0 (gP d text))),i64 0]):=
 Jm g.code (λk hk=>g.sm.2.1 k hk) (g.p1 hx) (gu d text) hx hn
theorem Good.offset {d:Db}(g:Good d){text:List Int}{n:Int}(hx:text.length<=1000) (hn:0<=n∧n<=9223372036854775807):@Pu gtR Tryz.prog 31 [dbD d,aD text,i64 n] (.tup [i64 (b6 0 (gP d text) (bT d.wid text n 0 (gP d text))),i64 0]):=
 y5 g.code (λk hk=>g.sm.2.1 k hk) (g.p1 hx) (gu d text) hx hn
end
section
open Go Go.Am Classical
set_option maxRecDepth 1000000
theorem xOA.rdX {p:Prop}(h:p:=by first|exact eT rfl rfl rfl rfl|fail):p:=h
open xOA
theorem ex_a1:@Pu gtR Tryz.prog 67 [bn yG,mJ,aD [12354]] (aD [2,2]):=by
 letI:=gtR;exact Pu.of_t aB T0 vR (by kernel_rfl) (by kernel_rfl:fx gtR Tryz.prog (fD Tryz.prog) Ed 1000 (.fn 67) [bn yG,mJ,aD [12354]] .emp 0 (λd1 h1 _=>ek h1 100000 d1 (aD [2,2]))=true)
theorem ex_a2:@Pu gtR Tryz.prog 67 [bn yG,mJ,aD [12354,769]] (aD [2,1,2]):=by
 letI:=gtR;exact Pu.of_t aB T0 vR (by kernel_rfl) (by kernel_rfl:fx gtR Tryz.prog (fD Tryz.prog) Ed 1000 (.fn 67) [bn yG,mJ,aD [12354,769]] .emp 0 (λd1 h1 _=>ek h1 100000 d1 (aD [2,1,2]))=true)
theorem Jc:@Pu gtR Tryz.prog 67 [bn yG,mJ,aD [12354,769,97]] (aD [2,1,2,2]):=by
 letI:=gtR;exact Pu.of_t aB T0 vR (by kernel_rfl) (by kernel_rfl:fx gtR Tryz.prog (fD Tryz.prog) Ed 1000 (.fn 67) [bn yG,mJ,aD [12354,769,97]] .emp 0 (λd1 h1 _=>ek h1 100000 d1 (aD [2,1,2,2]))=true)
theorem wH:PrV vG:=by
 have hw:∀ s∈vG.names,s.all (λb=>wbN b.toNat)=true:=by decide
 refine⟨⟨by decide,by decide,λi h=>⟨⟨?_,?_,λj hj=>?_⟩,?_⟩⟩,λi h=>?_⟩
 ·have h3:i<3:=h;rcases(by omega:i=0∨i=1∨i=2) with rfl|rfl|rfl<;>simp
 ·have h3:i<3:=h;rcases(by omega:i=0∨i=1∨i=2) with rfl|rfl|rfl<;>simp
 ·exact qi.1 (List.all_eq_true.1 (hw _ (kM h)) _ (kM hj))
 ·have h3:i<3:=h;rcases(by omega:i=0∨i=1∨i=2) with rfl|rfl|rfl<;>simp
 ·have h3:i<2:=h;rcases(by omega:i=0∨i=1) with rfl|rfl
  ·exact⟨by simp,λh=>absurd rfl h⟩
  ·exact⟨by simp,λ_=>by simp⟩
theorem nw (c:Int):@Pu gtR Tryz.prog 52 [bn vG,i64 c] (i64 (cL vG c)):=@GS gtR _ _ wH (by decide)
theorem F4:cL vG 769=0:=by
 obtain⟨_,h1,h2⟩:=gJ wH (c:=769) (v:=1) (by simp[dO]);rw[cL,<-h2];rfl
theorem ex_w1:cL vG 97=1:=by
 obtain⟨_,h1,h2⟩:=gJ wH (c:=97) (v:=0) (by simp[dO]);rw[cL,<-h2];rfl
theorem F3:cL vG 12354=2:=by
 obtain⟨_,h1,h2⟩:=gJ wH (c:=12354) (v:=2) (by simp[dO]);rw[cL,<-h2];rfl
theorem mx02:max (0:Int) 2=2:=by decide
theorem mx20:max (2:Int) 0=2:=by decide
theorem mx01:max (0:Int) 1=1:=by decide
theorem ex_W1:@Pu gtR Tryz.prog 26 [dbD exD,aD [12354]] (.tup [i64 2,i64 0]):=by
 have h:=wl (d:=exD) nw o7 (Ib (P:=[⟨0,1⟩]) ex_a1 (by decide) rfl) ⟨rfl,by decide,rfl⟩ (by decide);have e:bQ exD.wid [12354] [⟨0,1⟩]=2:=by simp[bQ,dI,mxW,pce,F3,mx02]
 exact e▸h
theorem ex_W2:@Pu gtR Tryz.prog 26 [dbD exD,aD [12354,769]] (.tup [i64 2,i64 0]):=by
 have h:=wl (d:=exD) nw o7 (Ib (P:=[⟨0,2⟩]) ex_a2 (by decide) rfl) ⟨rfl,by decide,rfl⟩ (by decide);have e:bQ exD.wid [12354,769] [⟨0,2⟩]=2:=by simp[bQ,dI,mxW,pce,F3,F4,mx02,mx20]
 exact e▸h
theorem F5:bT exD.wid [12354,769,97] 2 0 [⟨0,2⟩,⟨2,3⟩]=1:=by
 simp[bT,dI,mxW,pce,F3,F4,ex_w1,mx02,mx20,mx01]
theorem ex_F:@Pu gtR Tryz.prog 30 [dbD exD,aD [12354,769,97],i64 2] (.tup [i64 2,i64 0]):=by
 have h:=Jm (d:=exD) (n:=2) nw o7 (Ib (P:=[⟨0,2⟩,⟨2,3⟩]) Jc (by decide) rfl) ⟨rfl,by decide,rfl,by decide,rfl⟩ (by decide) (by decide);rw[F5] at h;exact h
theorem ex_O:@Pu gtR Tryz.prog 31 [dbD exD,aD [12354,769,97],i64 2] (.tup [i64 2,i64 0]):=by
 have h:=y5 (d:=exD) (n:=2) nw o7 (Ib (P:=[⟨0,2⟩,⟨2,3⟩]) Jc (by decide) rfl) ⟨rfl,by decide,rfl,by decide,rfl⟩ (by decide) (by decide);rw[F5] at h;exact h
theorem ex_P:@Pu gtR Tryz.prog 28 [dbD exD,aD [12354],i64 4,boo true] (.tup [aD [32,32,12354],i64 0]):=Ji (d:=exD) (n:=4) (r:=true) ex_W1 (by decide) (by decide) (by decide)
theorem ex_C:@Pu gtR Tryz.prog 24 [dbD exD,i64 769] (i64 0):=by
 have h:=CN (d:=exD) (c:=769) F6 o7 (nw 769);rw[show exD.wid=vG from rfl,F4] at h;exact h
theorem jB:@Pu gtR Tryz.prog 23 [] (boo true):=by
 letI:=gtR;have hdb:aN (dbD exD)=true:=by kernel_rfl
 have h0:=ex_c;have h1:=ex_W2;have h2:=ex_F;have h3:=ex_O;have h4:=ex_P;have h5:=ex_C;have h6:=Bo (l:=[32,32,12354]) (by decide);refine pv Tryz.func23 ?_;repeat' ((conv=>whnf);first|refine db.weak (x:=Code.seq (Code.region 3 _ true) _) aB T0 (s0:=⟨tmp 75 [(1,.ptr 0 0),(2,aD [12354,769,97])],⟨1,[(0,.cells (dbC exD) true)]⟩⟩) ?_ ?_|exact kQ|(refine bk ?_ ?_<;>intro _<;>try(exfalso;omega))|refine stq ?_|refine cp h0 ?_|refine cp h1 ?_|refine cp h2 ?_|refine cp h3 ?_|refine cp h4 ?_|refine cp h5 ?_|refine Chk.mk ⟨by decide,by decide,by decide,rfl⟩ ?_|refine Cll.emb (h6 ⟨0,[]⟩) [] [59] (boo true) [] [(0,.cells (dbC exD) true)] rfl cE bxA rdA bxA reA ?_|fail)
 ·exact lq [(0,_)] [4]
 all_goals(conv=>whnf)
 exact aC.same rfl rfl
end
section
open Go Go.Am Classical
set_option maxRecDepth 1000000
theorem xOB.rbX {p:Prop}(h:p:=by first|exact Rb.cells (Rds.same (cR _)) rfl|fail):p:=h
open xOB
theorem Ip {d:Db}{c:Int}(ho:d.ok) (_hc:-9223372036854775808<=c∧c<=9223372036854775807):@Pu gtR Tryz.prog 6 [dbD d,i64 c] (boo true):=by
 letI:=gtR;have hal:=jB;have hF:=DX ho;by_cases hs:SmD d
 ·rw[decide_eq_true hs] at hF
  obtain⟨n,h1,h2⟩:∃ n:Int,Pu Tryz.prog 24 [dbD d,i64 c] (i64 n)∧Pu Tryz.prog 25 [dbD d,i64 c] (i64 n):=by
   by_cases hv:DbV d
   ·exact⟨_,zC ⟨ho,hs,hv⟩,Co ⟨ho,hs,hv⟩⟩
   ·exact⟨_,JJ ho hs hv,Ey ho hs hv⟩
  refine pv Tryz.func6 ?_;repeat' ((conv=>whnf);first|exact kQ|(refine bk ?_ ?_<;>intro _<;>try(exfalso;omega))|refine stq ?_|refine cp hF ?_|refine ap.by aB T0 [0,0,3,0,0,31,63,127,255,511,1023] (by kernel_rfl) ?_|refine cp h1 ?_|refine cp h2 ?_|refine cp hal ?_|fail)
  all_goals(conv=>whnf)
  all_goals exact aC.same rfl rfl
 ·rw[decide_eq_false hs] at hF;refine pv Tryz.func6 ?_;repeat' ((conv=>whnf);first|exact kQ|(refine bk ?_ ?_<;>intro _<;>try(exfalso;omega))|refine stq ?_|refine cp hF ?_|refine cp hal ?_|fail)
  all_goals(conv=>whnf)
  exact aC.same rfl rfl
theorem CV {p:Prp}{l:List Int}{k:Nat}(h:k<l.length):iZ p (l.take (k+1))=iZ p (l.take k)+cL p l[k]:=by
 rw[List.take_add_one,List.getElem?_eq_getElem h,rR];simp[iZ]
set_option maxHeartbeats 8000000 in
theorem Gh {d:Db}{text:List Int}(ho:d.ok) (_hx:text.length<=9223372036854775807):@Pu gtR Tryz.prog 11 [dbD d,aD text] (boo true):=by
 letI:=gtR;have hal:=jB;by_cases hf:SmD d∧text.length<=40
 ·obtain⟨hs,h40⟩:=hf;have hF:=gK (text:=text) ho hs h40;by_cases hv:DbV d
  ·have g:Good d:=⟨ho,hs,hv⟩;have hW:=g.width (text:=text) om;have hlaw:=Ae (p:=d.wid) (gu d text);have hwr:=cY d.wid text (gP d text);have hpl:=gE (gu d text);have hcode:=λc=>zC (c:=c) g
   generalize bQ d.wid text (gP d text)=W at *;refine pv Tryz.func11 ?_;repeat' ((conv=>whnf);first|exact kQ|(refine bk ?_ ?_<;>intro _<;>try(exfalso;omega))|refine stq ?_|refine cp hF ?_|refine cp hW ?_|fail)
   refine aH.by3 aB T0 (λ(k:Nat) (s m:Int)=>⟨tmp 68 [(1,aD text),(2,.ptr 0 0),(5,i64 W),(7,i64 s),(8,i64 m),(9,i64 (k:Int))],⟨1,[(0,.cells (dbC d) true)]⟩⟩)
    (λk s m=>k<=text.length∧s=iZ d.wid (text.take k)∧m=mxW d.wid (text.take k)) (λk _ _=>text.length-k) 0 0 0 ⟨by omega,rfl,rfl⟩ ?_ ?_
   ·exact lq [(0,_)] []
   intro k s m ⟨h3,h4,h5⟩;have hsr:=mY d.wid (text.take k);have hmr:=eP d.wid (text.take k);have htl:(text.take k).length<=40:=by rw[List.length_take];omega
   by_cases hk:k<text.length
   ·have h1:=hcode text[k];have hcr:=cK d.wid text[k];have hs2:=CV (p:=d.wid) hk;have hm2:=nY (p:=d.wid) hk;generalize cL d.wid text[k]=cv at *;repeat' ((conv=>whnf);first|exact kQ|(refine bk ?_ ?_<;>intro _<;>try(exfalso;omega))|refine stq ?_|refine ap.by aB T0 [0,0,0,6,14,31,63] (by kernel_rfl) ?_|refine cp h1 ?_|fail)
    all_goals(conv=>whnf)
    all_goals
     refine⟨k+1,_,_,⟨by omega,by rw[hs2,<-h4]<;>omega,by rw[hm2,<-h5]<;>omega⟩,by omega,?_⟩;exact lq [(0,_)] []
   ·rw[kE om] at h4 h5;repeat' ((conv=>whnf);first|exact kQ|(refine bk ?_ ?_<;>intro _<;>try(exfalso;omega))|refine stq ?_|refine cp hal ?_|fail)
    all_goals(conv=>whnf)
    exact aC.same rfl rfl
  ·have hW:=oI (text:=text) ho hs hv;refine pv Tryz.func11 ?_;repeat' ((conv=>whnf);first|exact kQ|(refine bk ?_ ?_<;>intro _<;>try(exfalso;omega))|refine stq ?_|refine cp hF ?_|refine cp hW ?_|refine cp hal ?_|fail)
   all_goals(conv=>whnf)
   exact aC.same rfl rfl
 ·have hF:=kz (text:=text) ho hf;refine pv Tryz.func11 ?_;repeat' ((conv=>whnf);first|exact kQ|(refine bk ?_ ?_<;>intro _<;>try(exfalso;omega))|refine stq ?_|refine cp hF ?_|refine cp hal ?_|fail)
  all_goals(conv=>whnf)
  exact aC.same rfl rfl
theorem I0 {text:List Int}{a:Int}(h0:0<=a) (h1:a<=text.length):D.imm (a-0).toNat (((text.map i64).drop ((0:Int).toNat*1)).take ((a-0).toNat*1))=aD (text.take a.toNat):=by
 rw[vf (text:=text) (lo:=0) (hi:=a) om h0 h1];simp[pce]
theorem Good.begW {d:Db}(g:Good d){text:List Int}{k:Nat}{a:Int}(hx:text.length<=1000) (hk:k<=(gP d text).length) (ha:a=b6 0 (gP d text) k):@Pu gtR Tryz.prog 26 [dbD d,D.imm (a-0).toNat (((text.map i64).drop ((0:Int).toNat*1)).take ((a-0).toNat*1))] (.tup [i64 (bQ d.wid text ((gP d text).take k)),i64 0]):=by
 subst ha;have hc:=gu d text;have hle:=dG k hc;have hs:=Ca (p:=prop d 3) (text:=text) (k:=k) hk;have h:=g.width (text:=text.take (b6 0 (gP d text) k).toNat) (by rw[List.length_take];omega);rw[show gP d (text.take (b6 0 (gP d text) k).toNat)=(gP d text).take k from hs,tk (yb hc k) (Int.le_refl _) (Int.le_refl _)] at h;rw[I0 hle.1 hle.2];exact h
set_option maxHeartbeats 8000000 in
theorem IL {d:Db}{text:List Int}{n m:Int}(ho:d.ok) (_hx:text.length<=9223372036854775807) (hn:-9223372036854775808<=n∧n<=9223372036854775807) (hm:-9223372036854775808<=m∧m<=9223372036854775807):@Pu gtR Tryz.prog 9 [dbD d,aD text,.agg [i64 n,i64 m]] (boo true):=by
 letI:=gtR;have hal:=jB;by_cases hf:SmD d∧text.length<=40
 ·obtain⟨hs,h40⟩:=hf;have hF:=gK (text:=text) ho hs h40;by_cases hq:0<=n∧n<=m
  ·by_cases hv:DbV d
   ·have g:Good d:=⟨ho,hs,hv⟩;have hc:=gu d text;have hA:=g.fit (text:=text) (n:=n) om ⟨hq.1,hn.2⟩;have hB:=g.fit (text:=text) (n:=m) om ⟨by omega,hm.2⟩;have hW:=g.begW (text:=text) om (i8 d.wid text n (gP d text) 0) rfl;have h1:=dG (bT d.wid text n 0 (gP d text)) hc;have h2:=dG (bT d.wid text m 0 (gP d text)) hc;have h3:=pC hc (uk (p:=d.wid) (text:=text) (P:=gP d text) (s:=0) hq.2);have h4:=nr (p:=d.wid) (text:=text) (P:=gP d text) (n:=n) (s:=0) hq.1 (kP _);have h5:=cY d.wid text ((gP d text).take (bT d.wid text n 0 (gP d text)));generalize bQ d.wid text ((gP d text).take (bT d.wid text n 0 (gP d text)))=W at *;generalize b6 0 (gP d text) (bT d.wid text n 0 (gP d text))=a at *;generalize b6 0 (gP d text) (bT d.wid text m 0 (gP d text))=b at *;refine pv Tryz.func9 ?_;repeat' ((conv=>whnf);first|exact kQ|(refine bk ?_ ?_<;>intro _<;>try(exfalso;omega))|refine stq ?_|refine cp hF ?_|refine cp hA ?_|refine cp hB ?_|refine cp hal ?_|refine ap.by aB T0 [0,0,0,6,15,31,63,63,127,511] (by kernel_rfl) ?_|refine Chk.mk ⟨by omega,by omega,by omega,(by simp:(text.map i64).length=text.length*1)⟩ ?_|refine cp hW ?_|fail)
    all_goals(conv=>whnf)
    all_goals exact aC.same rfl rfl
   ·have hA:=HA (text:=text) (n:=n) ho hs hv;have hB:=HA (text:=text) (n:=m) ho hs hv;refine pv Tryz.func9 ?_;repeat' ((conv=>whnf);first|exact kQ|(refine bk ?_ ?_<;>intro _<;>try(exfalso;omega))|refine stq ?_|refine cp hF ?_|refine cp hA ?_|refine cp hB ?_|refine cp hal ?_|fail)
    all_goals(conv=>whnf)
    all_goals exact aC.same rfl rfl
  ·refine pv Tryz.func9 ?_;repeat' ((conv=>whnf);first|exact kQ|(refine bk ?_ ?_<;>intro _<;>try(exfalso;omega))|refine stq ?_|refine cp hF ?_|refine cp hal ?_|fail)
   all_goals(conv=>whnf)
   all_goals exact aC.same rfl rfl
 ·have hF:=kz (text:=text) ho hf;refine pv Tryz.func9 ?_;repeat' ((conv=>whnf);first|exact kQ|(refine bk ?_ ?_<;>intro _<;>try(exfalso;omega))|refine stq ?_|refine cp hF ?_|refine cp hal ?_|fail)
  all_goals(conv=>whnf)
  all_goals exact aC.same rfl rfl
end
end Go.Proofs.YtbmdndckndnehaaGreatDoor
