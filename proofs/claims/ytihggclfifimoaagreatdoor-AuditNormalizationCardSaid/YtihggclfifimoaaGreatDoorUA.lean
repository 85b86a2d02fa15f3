/-
  Contracts over data: the reference's syllables and classes.
-/
import Derived.Test.YtihggclfifimoaaGreatDoorNF
set_option linter.unusedSectionVars false
namespace Go.Proofs.YtihggclfifimoaaGreatDoor
open Go Go.Am Classical
set_option maxRecDepth 100000
set_option linter.unusedVariables false
theorem jH {c:Int}:Pu Tryz.prog 358 [i64 c] (i64 (hk c)):=by
 refine pv Tryz.func358 ?_;repeat' ((conv=>whnf);first|exact kQ|(refine bk ?_ ?_<;>intro _<;>try(exfalso;omega))|refine stq ?_)
 all_goals(conv=>whnf)
 all_goals first
  | (have:=aj c;exact aE.int om)
  | (have:=aj c;have h0:(c-44032).tmod 28=(c-44032) % 28:=Int.tmod_eq_emod_of_nonneg om
     exact aE.int om)
theorem t8 {c:Int}:Pu Tryz.prog 396 [i64 c] (aF (hd c)):=by
 have hkc:=jH (c:=c);have hh:=aj c;refine pv Tryz.func396 ?_;by_cases h4:4<=hk c
 ·have hb:44032<=c∧c<=55203:=by omega
  have w1:IntKind.i64.wrap ((c-44032).tdiv 28)=(c-44032) / 28:=by
   rw[(tdm om).1];simp[IntKind.wrap,IntKind.bits,IntKind.signed];omega
  have w2:IntKind.i64.wrap (((c-44032) / 28).tdiv 21)=(c-44032) / 28 / 21:=by
   rw[(tdm om).1];simp[IntKind.wrap,IntKind.bits,IntKind.signed];omega
  have m1:((c-44032) / 28).tmod 21=(c-44032) / 28 % 21:=(tdm om).2;have m2:(c-44032).tmod 28=(c-44032) % 28:=(tdm om).2;by_cases hz:(c-44032) % 28=0
  ·have hq:hd c=[4352+(c-44032) / 28 / 21,4449+(c-44032) / 28 % 21]:=by unfold hd;rw[if_pos h4,if_pos hz];rfl
   repeat' ((conv=>whnf);first|exact kQ|(refine bk ?_ ?_<;>intro _<;>try(exfalso;omega))|refine stq ?_|refine cp hkc ?_|refine Chk.mk (fg (by simp only[w1,w2,m1];omega) (by simp only[w1,w2,m1];omega)) ?_|fail)
   all_goals(conv=>whnf)
   all_goals first
    | (exfalso;simp only[m2] at *;omega)
    | exact aE.frz1 rfl (show _=(hd c).map i64 by rw[hq];simp only[w1,w2,m1];rfl) (by rw[hq];rfl) (λ_=>rfl) rfl
  ·have hq:hd c=[4352+(c-44032) / 28 / 21,4449+(c-44032) / 28 % 21,4519+(c-44032) % 28]:=by unfold hd;rw[if_pos h4,if_neg hz];rfl
   repeat' ((conv=>whnf);first|exact kQ|(refine bk ?_ ?_<;>intro _<;>try(exfalso;omega))|refine stq ?_|refine cp hkc ?_|refine Chk.mk (fg (by simp only[w1,w2,m1];omega) (by simp only[w1,w2,m1];omega)) ?_|refine Chk.mk ⟨kD rfl,kD rfl,kD rfl⟩ ?_|fail)
   all_goals(conv=>whnf)
   all_goals first
    | (exfalso;simp only[m2] at *;omega)
    | exact aE.frz1 rfl (show _=(hd c).map i64 by rw[hq];simp only[w1,w2,m1,m2,show(4520+(c-44032) % 28-1:Int)=4519+(c-44032) % 28 from by omega];rfl) (by rw[hq];rfl) (λ_=>rfl) rfl
 ·repeat' ((conv=>whnf);first|exact kQ|(refine bk ?_ ?_<;>intro _<;>try(exfalso;omega))|refine stq ?_|refine cp hkc ?_|fail)
  all_goals(conv=>whnf)
  all_goals first
   | omega
   | exact aE.frz1 rfl (by unfold hd;rw[if_neg h4];rfl) (by unfold hd;rw[if_neg h4];rfl) (λ_=>rfl) rfl
def iE:List Rng:=[⟨4352,4370⟩,⟨4449,4469⟩,⟨4520,4546⟩,⟨44032,55203⟩]
theorem Fg:Pu Tryz.prog 392 [] (bD iE):=by
 refine pv Tryz.func392 ?_;repeat' ((conv=>whnf);first|exact kQ|(refine bk ?_ ?_<;>intro _<;>try(exfalso;omega))|refine stq ?_)
 all_goals(conv=>whnf)
 exact⟨Rd.frzL aa aU rfl rfl rfl rfl rfl⟩
theorem EE {s:Spn}(h:∀ k (hk:k<iE.length),¬(s.lo<=iE[k].hi∧iE[k].lo<=s.hi)):nI s:=
 ⟨h 0 (by decide),h 1 (by decide),h 2 (by decide),h 3 (by decide)⟩
theorem Dc {s:Spn}(h:nI s):∀ k (hk:k<iE.length),¬(s.lo<=iE[k].hi∧iE[k].lo<=s.hi)
 | 0,_=>h.1
 | 1,_=>h.2.1
 | 2,_=>h.2.2.1
 | 3,_=>h.2.2.2
theorem sY {a b:Int}{x y:Bool}(h:a=b->x=y):[i64 a]=[i64 b]->boo x=boo y:=λe=>by
 have:a=b:=by injection e with e _;injection e with e;injection e
 rw[h this]
set_option maxHeartbeats 4000000 in
theorem DF {l:List Spn}(hl:l.length<=1000):∃ e:Int,Pu Tryz.prog 354 [bC l] (i64 e)∧(e=0↔OrV l):=by
 have hg:=Fg;have hh4:iE.length=4:=rfl;by_cases hA:∀ i (h:i<l.length),spA l[i]
 ·by_cases hB:∀ i (h:i<l.length),spB l i l[i]
  ·refine⟨if OrV l then 0 else 11,?_,by split<;>simp_all⟩;refine pv Tryz.func354 ?_;repeat' ((conv=>whnf);first|exact kQ|(refine bk ?_ ?_<;>intro _<;>try(exfalso;omega))|refine stq ?_)
   refine aH.by aA T0 (λk:Nat=>⟨tmp 143 [(0,bC l),(3,i64 (k:Int))],⟨0,[]⟩⟩) (λk=>k<=l.length) (λk=>l.length-k) 0 om ?_ ?_
   ·exact lq0
   intro k h3;by_cases hk:k<l.length
   ·have h5:=hA k hk;unfold spA at h5;repeat' ((conv=>whnf);first|exact kQ|(refine bk ?_ ?_<;>intro _<;>try(exfalso;omega))|refine stq ?_|refine cd dD (λ_=>?_) (λ_=>?_)|refine Chk.mk (sY λ_=>rfl) ?_|refine Chk.mk (sY λh=>absurd h om) ?_|fail)
    all_goals(conv=>whnf)
    all_goals first
     | (exfalso;omega)
     | (refine⟨k+1,by omega,by omega,?_⟩
        exact lq0)
     | fail
   repeat' ((conv=>whnf);first|exact kQ|(refine bk ?_ ?_<;>intro _<;>try(exfalso;omega))|refine stq ?_|refine cp hg ?_|fail)
   refine aH.by aA T0 (λk:Nat=>⟨tmp 143 [(0,bC l),(4,i64 ((k+1:Nat):Int))],⟨0,[]⟩⟩) (λk=>k<=l.length) (λk=>l.length-k) 0 om ?_ ?_
   ·exact lq0
   intro k h3;by_cases hk:k+1<l.length
   ·have h5:=hB (k+1) hk om;have h6:=hA k om;unfold spA at h6;have e:l.getD (k+1-1) default=l[k]:=bR om;rw[e] at h5;repeat' ((conv=>whnf);first|exact kQ|(refine bk ?_ ?_<;>intro _<;>try(exfalso;omega))|refine stq ?_|refine aX.by (id:=9) aA T0 [0,0,3,7,15,0,0,64,224,480,992,2047,4095,8191,8191,32767,65535,131071,8191,8191,532479,1843199,3940351,8134655,16523263,33554431,67108863,134217727,134217727,536870911,1073741823,2147483647,134217727,134217727,8724152319,30198988799,64558727167,133278203903,274877906943,549755813887,1099511627775] (by kernel_rfl) ?_|refine Idx.atS (by intro _;rfl) k om om ?_|refine Idx.atS (by intro _;rfl) (k+1) om om ?_|refine Chk.mk ⟨_,rfl⟩ ?_|fail)
    all_goals(conv=>whnf)
    all_goals first
     | (exfalso;omega)
     | (refine⟨k+1,by omega,by omega,?_⟩
        exact lq0)
     | fail
   repeat' ((conv=>whnf);first|exact kQ|(refine bk ?_ ?_<;>intro _<;>try(exfalso;omega))|refine stq ?_|refine cp hg ?_|fail)
   refine aH.by aA T0 (λk:Nat=>⟨tmp 143 [(0,bC l),(5,bD iE),(6,i64 (k:Int))],⟨0,[]⟩⟩) (λk=>k<=l.length∧∀ i (h:i<l.length),i<k->nI l[i]) (λk=>l.length-k) 0 ⟨by omega,λ_ _ h=>by omega⟩ ?_ ?_
   ·exact lq0
   intro k ⟨h3,h4⟩;by_cases hk:k<l.length
   ·repeat' ((conv=>whnf);first|exact kQ|(refine bk ?_ ?_<;>intro _<;>try(exfalso;omega))|refine stq ?_)
    all_goals(conv=>whnf)
    refine aH.by aA T0 (λj:Nat=>⟨tmp 143 [(0,bC l),(5,bD iE),(6,i64 (k:Int)),(7,i64 (j:Int))],⟨0,[]⟩⟩) (λj=>j<=4∧∀ i (h:i<iE.length),i<j->¬(l[k].lo<=iE[i].hi∧iE[i].lo<=l[k].hi)) (λj=>4-j) 0 ⟨by omega,λ_ _ h=>by omega⟩ ?_ ?_
    ·exact lq0
    intro j ⟨h6,h7⟩;by_cases hj:j<4
    ·have hj2:j<iE.length:=hj;repeat' ((conv=>whnf);first|exact kQ|(refine bk ?_ ?_<;>intro _<;>try(exfalso;omega))|refine stq ?_|refine aX.by (id:=18) aA T0 [0,0,3,7,15,0,0,96,224,480,1023,2047,4095,4095,16383,32767,65535,4095,4095,397311,921599,1970175,4194303,8388607] (by kernel_rfl) ?_|fail)
     all_goals(conv=>whnf)
     all_goals first
      | exact aE.int (by rw[if_neg λh=>absurd (Dc (h.hang k hk) j hj2) om])
      | (refine⟨j+1,⟨by omega,ad hj2 h7 om⟩,by omega,?_⟩
         exact lq0)
      | fail
    ·repeat' ((conv=>whnf);first|exact kQ|(refine bk ?_ ?_<;>intro _<;>try(exfalso;omega))|refine stq ?_)
     all_goals(conv=>whnf)
     all_goals first
      | (refine⟨k+1,⟨by omega,ad hk h4 (EE λi hi=>h7 i hi om)⟩,by omega,?_⟩
         exact lq0)
      | fail
   ·repeat' ((conv=>whnf);first|exact kQ|(refine bk ?_ ?_<;>intro _<;>try(exfalso;omega))|refine stq ?_)
    all_goals(conv=>whnf)
    exact aE.int (by rw[if_pos (OrV.of hA hB λi hi=>h4 i hi om)])
  ·refine⟨4,?_,by refine⟨λh=>om,λh=>absurd (λi hi=>(h.cl i hi).2) hB⟩⟩;refine pv Tryz.func354 ?_;repeat' ((conv=>whnf);first|exact kQ|(refine bk ?_ ?_<;>intro _<;>try(exfalso;omega))|refine stq ?_)
   refine aH.by aA T0 (λk:Nat=>⟨tmp 143 [(0,bC l),(3,i64 (k:Int))],⟨0,[]⟩⟩) (λk=>k<=l.length) (λk=>l.length-k) 0 om ?_ ?_
   ·exact lq0
   intro k h3;by_cases hk:k<l.length
   ·have h5:=hA k hk;unfold spA at h5;repeat' ((conv=>whnf);first|exact kQ|(refine bk ?_ ?_<;>intro _<;>try(exfalso;omega))|refine stq ?_|refine cd dD (λ_=>?_) (λ_=>?_)|refine Chk.mk (sY λ_=>rfl) ?_|refine Chk.mk (sY λh=>absurd h om) ?_|fail)
    all_goals(conv=>whnf)
    all_goals first
     | (exfalso;omega)
     | (refine⟨k+1,by omega,by omega,?_⟩
        exact lq0)
   repeat' ((conv=>whnf);first|exact kQ|(refine bk ?_ ?_<;>intro _<;>try(exfalso;omega))|refine stq ?_|refine cp hg ?_|fail)
   refine aH.by aA T0 (λk:Nat=>⟨tmp 143 [(0,bC l),(4,i64 ((k+1:Nat):Int))],⟨0,[]⟩⟩) (λk=>k<=l.length∧∀ i (h:i<l.length),i<k+1->spB l i l[i]) (λk=>l.length-k) 0 ⟨by omega,λi _ h h0=>by omega⟩ ?_ ?_
   ·exact lq0
   intro k ⟨h3,h4⟩;by_cases hk:k+1<l.length
   ·have h6:=hA k om;have h7:=hA (k+1) hk;unfold spA at h6 h7;have e:l.getD (k+1-1) default=l[k]:=bR om;repeat' ((conv=>whnf);first|exact kQ|(refine bk ?_ ?_<;>intro _<;>try(exfalso;omega))|refine stq ?_|refine aX.by (id:=9) aA T0 [0,0,3,7,15,0,0,64,224,480,992,2047,4095,8191,8191,32767,65535,131071,8191,8191,532479,1843199,3940351,8134655,16523263,33554431,67108863,134217727,134217727,536870911,1073741823,2147483647,134217727,134217727,8724152319,30198988799,64558727167,133278203903,274877906943,549755813887,1099511627775] (by kernel_rfl) ?_|refine Idx.atS (by intro _;rfl) k om om ?_|refine Idx.atS (by intro _;rfl) (k+1) om om ?_|refine Chk.mk ⟨_,rfl⟩ ?_|fail)
    all_goals(conv=>whnf)
    all_goals first
     | exact aE.int rfl
     | (refine⟨k+1,⟨by omega,ad hk h4 (λ_=>by rw[e];omega)⟩,by omega,?_⟩
        exact lq0)
     | fail
   ·exact absurd (λi hi=>h4 i hi om) hB
 ·refine⟨1,?_,by refine⟨λh=>om,λh=>absurd (λi hi=>(h.cl i hi).1) hA⟩⟩;refine pv Tryz.func354 ?_;repeat' ((conv=>whnf);first|exact kQ|(refine bk ?_ ?_<;>intro _<;>try(exfalso;omega))|refine stq ?_)
  refine aH.by aA T0 (λk:Nat=>⟨tmp 143 [(0,bC l),(3,i64 (k:Int))],⟨0,[]⟩⟩) (λk=>k<=l.length∧∀ i (h:i<l.length),i<k->spA l[i]) (λk=>l.length-k) 0 ⟨by omega,λ_ _ h=>by omega⟩ ?_ ?_
  ·exact lq0
  intro k ⟨h3,h4⟩;by_cases hk:k<l.length
  ·
   repeat' ((conv=>whnf);first|exact kQ|(refine bk ?_ ?_<;>intro _<;>try(exfalso;omega))|refine stq ?_|refine cd dD (λ_=>?_) (λ_=>?_)|refine Chk.mk (sY λ_=>rfl) ?_|refine Chk.mk (sY λh=>absurd h om) ?_|fail)
   all_goals(conv=>whnf)
   all_goals first
    | exact aE.int rfl
    | (refine⟨k+1,⟨by omega,ad hk h4 (by unfold spA;omega)⟩,by omega,?_⟩
       exact lq0)
    | fail
  ·exact absurd (λi hi=>h4 i hi om) hA
theorem v7 {l:List Spn}{c:Int}(hl:l.length<=1000):Pu Tryz.prog 284 [bC l,i64 c] (i64 (aJ (fG l) c)):=by
 obtain⟨e,h1,h2⟩:=DF hl;refine pv Tryz.func284 ?_;by_cases he:e=0
 ·rw[show fG l=l from if_pos (h2.1 he)];subst he;repeat' ((conv=>whnf);first|exact kQ|(refine bk ?_ ?_<;>intro _<;>try(exfalso;omega))|refine stq ?_|refine cp h1 ?_|fail)
  refine aH.by aA T0 (λk:Nat=>⟨tmp 36 [(0,bC l),(1,i64 c),(5,i64 (k:Int))],⟨0,[]⟩⟩) (λk=>k<=l.length∧aJ l c=aJ (l.drop k) c) (λk=>l.length-k) 0 ⟨by omega,rfl⟩ ?_ ?_
  ·exact lq0
  intro k ⟨h3,h4⟩;by_cases hk:k<l.length
  ·have hd:=Bt hk c;repeat' ((conv=>whnf);first|exact kQ|(refine bk ?_ ?_<;>intro _<;>try(exfalso;omega))|refine stq ?_)
   all_goals(conv=>whnf)
   all_goals first
    | exact aE.int (by rw[h4,hd,if_pos om])
    | (refine⟨k+1,⟨by omega,by rw[h4,hd,if_neg om]⟩,by omega,?_⟩
       exact lq0)
    | fail
  ·have he:aJ l c=0:=by rw[h4,List.drop_of_length_le om];rfl
   repeat' ((conv=>whnf);first|exact kQ|(refine bk ?_ ?_<;>intro _<;>try(exfalso;omega))|refine stq ?_)
   all_goals(conv=>whnf)
   exact aE.int he.symm
 ·rw[show fG l=[] from if_neg λh=>he (h2.2 h)];repeat' ((conv=>whnf);first|exact kQ|(refine bk ?_ ?_<;>intro _<;>try(exfalso;omega))|refine stq ?_|refine cp h1 ?_|fail)
  all_goals(conv=>whnf)
  all_goals first
   | exact aE.int rfl
   | contradiction
theorem qX {l:List Spn}{c:Int}(hl:l.length<=1000):Pu Tryz.prog 162 [bC l,i64 c] (boo (decide (aJ (fG l) c=0))):=by
 have h:=v7 (c:=c) hl;refine pv Tryz.func162 ?_;repeat' ((conv=>whnf);first|exact kQ|(refine bk ?_ ?_<;>intro _<;>try(exfalso;omega))|refine stq ?_|refine cp h ?_|fail)
 all_goals(conv=>whnf)
 all_goals first
  | exact aE.yes om
  | exact aE.no om
  | exact aE.same rfl rfl
  | fail
end Go.Proofs.YtihggclfifimoaaGreatDoor
