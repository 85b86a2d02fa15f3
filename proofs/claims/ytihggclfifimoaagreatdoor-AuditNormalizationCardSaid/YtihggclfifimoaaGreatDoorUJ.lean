/-
  Contracts over data: the reference's check of the data of normalization.
-/
import Derived.Test.YtihggclfifimoaaGreatDoorUB
set_option linter.unusedSectionVars false
namespace Go.Proofs.YtihggclfifimoaaGreatDoor
open Go Go.Am Classical
set_option maxRecDepth 100000
set_option linter.unusedVariables false
theorem xUJ.rdX {p:Prop}(h:p:=by first|exact Rd.same (bH _)|exact Rd.same (iB _)|exact Rd.same (aC _)|fail):p:=h
theorem xUJ.rbX {p:Prop}(h:p:=by first|exact rbN|fail):p:=h
open xUJ
theorem GU {l:List Mpg}{i:Nat}(hi:i<l.length):∃ j,j<=i∧fI l l[i].frm true=some j:=by
 cases h:fI l l[i].frm true with
 | none=>exact absurd ⟨rfl,.inl rfl⟩ (ua h _ (kM hi))
 | some j=>
  refine⟨j,?_,rfl⟩;obtain⟨hj,h1,h2⟩:=List.findIdx?_eq_some_iff_getElem.1 h;rcases Nat.lt_or_ge i j with hlt|hge
  ·have:=h2 i hlt
   simp at this
  ·exact hge
abbrev kcP (n:Nm) (m:Mpg):Prop:=hk m.frm=0∧(m.tag≠[]->aJ n.cl m.frm=0)
set_option maxHeartbeats 8000000 in
theorem v8 {n:Nm}(hn:n.ok):∃ e:Int,Pu Tryz.prog 285 [nmD n] (i64 e)∧(e=0↔RefG n):=by
 obtain⟨eo,o1,o2⟩:=DF hn.cl;obtain⟨em,m1,m2⟩:=BG hn.ms;have v1:=vo (rs:=n.xc) (by have:=hn.xc;omega);have hlen:=hn.dc;have hto:=hn.to;have lE:(cW n.dc).length=n.dc.length:=by simp[cW]
 have l1:(fC n.dc false).length=n.dc.length:=by simp
 have l2:(fC n.dc true).length=n.dc.length:=by simp
 by_cases hO:eo=0
 ·by_cases hM:em=0
  ·by_cases hV:i7 n.xc
   ·rw[decide_eq_true hV] at v1;by_cases hF:rq n.dc
    ·by_cases hT:∀ i (h:i<n.dc.length),lu n.dc[i]
     ·have hu:fG n.cl=n.cl:=if_pos (o2.1 hO)
      have hCl:∀ c:Int,Pu Tryz.prog 284 [bC n.cl,i64 c] (i64 (aJ n.cl c)):=λc=>by
       have:=v7 (c:=c) hn.cl
       rwa [hu] at this
      by_cases hK:∀ i (h:i<n.dc.length),hk n.dc[i].frm=0∧(n.dc[i].tag≠[]->aJ n.cl n.dc[i].frm=0)
      ·have e1:=ends_c hlen hto;by_cases hE:∀ i (h:i<n.dc.length),(cW n.dc).getD i false=true
       ·have g1:=sc (k:=false) hlen hto;have g2:=sc (k:=true) hlen hto;by_cases hL:∀ i (h:i<n.dc.length),(fC n.dc false).getD i 0<=64∧(fC n.dc true).getD i 0<=64
        ·refine⟨0,?_,λ_=>⟨o2.1 hO,m2.1 hM,hV,hF,hT,hK,hE,hL⟩,λ_=>rfl⟩;subst hO;subst hM;refine pv Tryz.func285 ?_;repeat' ((conv=>whnf);first|exact kQ|(refine bk ?_ ?_<;>intro _<;>try(exfalso;omega))|refine stq ?_|refine cp o1 ?_|refine cp m1 ?_|refine cp v1 ?_|fail)
         refine aH.by aA T0 (λk:Nat=>⟨tmp 144 [(1,.ptr 0 0),(5,ag n.dc),(6,i64 (k:Int))],⟨1,nmX n⟩⟩) (λk=>k<=n.dc.length) (λk=>n.dc.length-k) 0 om ?_ ?_
         ·exact lq [(0,_)] []
         intro k h3;by_cases hk:k<n.dc.length
         ·have hc:=ep hn.dc (hF k hk);repeat' ((conv=>whnf);first|exact kQ|(refine bk ?_ ?_<;>intro _<;>try(exfalso;omega))|refine stq ?_|refine cp hc ?_|fail)
          all_goals(conv=>whnf)
          all_goals first
           | (exfalso;omega)
           | (refine⟨k+1,by omega,by omega,?_⟩
              exact lq [(0,_)] [])
         repeat' ((conv=>whnf);first|exact kQ|(refine bk ?_ ?_<;>intro _<;>try(exfalso;omega))|refine stq ?_)
         refine aH.by aA T0 (λk:Nat=>⟨tmp 144 [(1,.ptr 0 0),(5,ag n.dc),(7,i64 (k:Int))],⟨1,nmX n⟩⟩) (λk=>k<=n.dc.length) (λk=>n.dc.length-k) 0 om ?_ ?_
         ·exact lq [(0,_)] []
         intro k h3;by_cases hk:k<n.dc.length
         ·have h5:=hT k hk;unfold lu at h5;have h6:=hn.to k hk;repeat' ((conv=>whnf);first|exact kQ|(refine bk ?_ ?_<;>intro _<;>try(exfalso;omega))|refine stq ?_)
          all_goals(conv=>whnf)
          all_goals first
           | (exfalso;rcases h5 asm with h|h<;>omega)
           | (refine⟨k+1,by omega,by omega,?_⟩
              exact lq [(0,_)] [])
         repeat' ((conv=>whnf);first|exact kQ|(refine bk ?_ ?_<;>intro _<;>try(exfalso;omega))|refine stq ?_)
         refine aH.by aA T0 (λk:Nat=>⟨tmp 144 [(1,.ptr 0 0),(5,ag n.dc),(8,i64 (k:Int))],⟨1,nmX n⟩⟩) (λk=>k<=n.dc.length) (λk=>n.dc.length-k) 0 om ?_ ?_
         ·exact lq [(0,_)] []
         intro k h3;by_cases hk:k<n.dc.length
         ·obtain⟨h5,h6⟩:=hK k hk;have h7:=hCl n.dc[k].frm;have h8:=jH (c:=n.dc[k].frm);repeat' ((conv=>whnf);first|exact kQ|(refine bk ?_ ?_<;>intro _<;>try(exfalso;omega))|refine stq ?_|refine cp h7 ?_|refine cp h8 ?_|fail)
          all_goals(conv=>whnf)
          all_goals first
           | (exfalso;omega)
           | (exfalso;have:=h6 asm;omega)
           | (refine⟨k+1,by omega,by omega,?_⟩
              exact lq [(0,_)] [])
         repeat' ((conv=>whnf);first|exact kQ|(refine bk ?_ ?_<;>intro _<;>try(exfalso;omega))|refine stq ?_|refine cp e1 ?_|fail)
         refine aH.by aA T0 (λk:Nat=>⟨tmp 144 [(1,.ptr 0 0),(5,ag n.dc),(9,tG (cW n.dc)),(10,i64 (k:Int))],⟨1,nmX n⟩⟩) (λk=>k<=n.dc.length) (λk=>n.dc.length-k) 0 om ?_ ?_
         ·exact lq [(0,_)] []
         intro k h3;by_cases hk:k<n.dc.length
         ·have h5:(cW n.dc)[k]'(by omega)=true:=by rw[<-hE k hk];exact(bR om).symm
          repeat' ((conv=>whnf);first|refine Idx.atE (l:=cW n.dc) (f:=boo) k rfl om (congrArg boo h5) ?_|exact kQ|(refine bk ?_ ?_<;>intro _<;>try(exfalso;omega))|refine stq ?_|fail)
          all_goals(conv=>whnf)
          all_goals first
           | (exfalso;omega)
           | (refine⟨k+1,by omega,by omega,?_⟩
              exact lq [(0,_)] [])
         repeat' ((conv=>whnf);first|exact kQ|(refine bk ?_ ?_<;>intro _<;>try(exfalso;omega))|refine stq ?_|refine cp g1 ?_|refine cp g2 ?_|fail)
         refine aH.by aA T0 (λk:Nat=>⟨tmp 144 [(1,.ptr 0 0),(5,ag n.dc),(11,aF (fC n.dc false)),(12,aF (fC n.dc true)),(13,i64 (k:Int))],⟨1,nmX n⟩⟩) (λk=>k<=n.dc.length ) (λk=>n.dc.length-k) 0 om ?_ ?_
         ·exact lq [(0,_)] []
         intro k h3;by_cases hk:k<n.dc.length
         ·have h5:=hL k hk;rw[gDe om,gDe om] at h5;repeat' ((conv=>whnf);first|exact kQ|(refine bk ?_ ?_<;>intro _<;>try(exfalso;omega))|refine stq ?_)
          all_goals(conv=>whnf)
          all_goals first
           | (exfalso;omega)
           | (refine⟨k+1,by omega,by omega,?_⟩
              exact lq [(0,_)] [])
         ·repeat' ((conv=>whnf);first|exact kQ|(refine bk ?_ ?_<;>intro _<;>try(exfalso;omega))|refine stq ?_)
          all_goals(conv=>whnf)
          exact aE.int rfl
        ·refine⟨13,?_,λh=>by omega,λh=>absurd h.lens hL⟩;subst hO;subst hM;refine pv Tryz.func285 ?_;repeat' ((conv=>whnf);first|exact kQ|(refine bk ?_ ?_<;>intro _<;>try(exfalso;omega))|refine stq ?_|refine cp o1 ?_|refine cp m1 ?_|refine cp v1 ?_|fail)
         refine aH.by aA T0 (λk:Nat=>⟨tmp 144 [(1,.ptr 0 0),(5,ag n.dc),(6,i64 (k:Int))],⟨1,nmX n⟩⟩) (λk=>k<=n.dc.length) (λk=>n.dc.length-k) 0 om ?_ ?_
         ·exact lq [(0,_)] []
         intro k h3;by_cases hk:k<n.dc.length
         ·have hc:=ep hn.dc (hF k hk);repeat' ((conv=>whnf);first|exact kQ|(refine bk ?_ ?_<;>intro _<;>try(exfalso;omega))|refine stq ?_|refine cp hc ?_|fail)
          all_goals(conv=>whnf)
          all_goals first
           | (exfalso;omega)
           | (refine⟨k+1,by omega,by omega,?_⟩
              exact lq [(0,_)] [])
         repeat' ((conv=>whnf);first|exact kQ|(refine bk ?_ ?_<;>intro _<;>try(exfalso;omega))|refine stq ?_)
         refine aH.by aA T0 (λk:Nat=>⟨tmp 144 [(1,.ptr 0 0),(5,ag n.dc),(7,i64 (k:Int))],⟨1,nmX n⟩⟩) (λk=>k<=n.dc.length) (λk=>n.dc.length-k) 0 om ?_ ?_
         ·exact lq [(0,_)] []
         intro k h3;by_cases hk:k<n.dc.length
         ·have h5:=hT k hk;unfold lu at h5;have h6:=hn.to k hk;repeat' ((conv=>whnf);first|exact kQ|(refine bk ?_ ?_<;>intro _<;>try(exfalso;omega))|refine stq ?_)
          all_goals(conv=>whnf)
          all_goals first
           | (exfalso;rcases h5 asm with h|h<;>omega)
           | (refine⟨k+1,by omega,by omega,?_⟩
              exact lq [(0,_)] [])
         repeat' ((conv=>whnf);first|exact kQ|(refine bk ?_ ?_<;>intro _<;>try(exfalso;omega))|refine stq ?_)
         refine aH.by aA T0 (λk:Nat=>⟨tmp 144 [(1,.ptr 0 0),(5,ag n.dc),(8,i64 (k:Int))],⟨1,nmX n⟩⟩) (λk=>k<=n.dc.length) (λk=>n.dc.length-k) 0 om ?_ ?_
         ·exact lq [(0,_)] []
         intro k h3;by_cases hk:k<n.dc.length
         ·obtain⟨h5,h6⟩:=hK k hk;have h7:=hCl n.dc[k].frm;have h8:=jH (c:=n.dc[k].frm);repeat' ((conv=>whnf);first|exact kQ|(refine bk ?_ ?_<;>intro _<;>try(exfalso;omega))|refine stq ?_|refine cp h7 ?_|refine cp h8 ?_|fail)
          all_goals(conv=>whnf)
          all_goals first
           | (exfalso;omega)
           | (exfalso;have:=h6 asm;omega)
           | (refine⟨k+1,by omega,by omega,?_⟩
              exact lq [(0,_)] [])
         repeat' ((conv=>whnf);first|exact kQ|(refine bk ?_ ?_<;>intro _<;>try(exfalso;omega))|refine stq ?_|refine cp e1 ?_|fail)
         refine aH.by aA T0 (λk:Nat=>⟨tmp 144 [(1,.ptr 0 0),(5,ag n.dc),(9,tG (cW n.dc)),(10,i64 (k:Int))],⟨1,nmX n⟩⟩) (λk=>k<=n.dc.length) (λk=>n.dc.length-k) 0 om ?_ ?_
         ·exact lq [(0,_)] []
         intro k h3;by_cases hk:k<n.dc.length
         ·have h5:(cW n.dc)[k]'(by omega)=true:=by rw[<-hE k hk];exact(bR om).symm
          repeat' ((conv=>whnf);first|refine Idx.atE (l:=cW n.dc) (f:=boo) k rfl om (congrArg boo h5) ?_|exact kQ|(refine bk ?_ ?_<;>intro _<;>try(exfalso;omega))|refine stq ?_|fail)
          all_goals(conv=>whnf)
          all_goals first
           | (exfalso;omega)
           | (refine⟨k+1,by omega,by omega,?_⟩
              exact lq [(0,_)] [])
         repeat' ((conv=>whnf);first|exact kQ|(refine bk ?_ ?_<;>intro _<;>try(exfalso;omega))|refine stq ?_|refine cp g1 ?_|refine cp g2 ?_|fail)
         refine aH.by aA T0 (λk:Nat=>⟨tmp 144 [(1,.ptr 0 0),(5,ag n.dc),(11,aF (fC n.dc false)),(12,aF (fC n.dc true)),(13,i64 (k:Int))],⟨1,nmX n⟩⟩) (λk=>k<=n.dc.length∧∀ i (h:i<n.dc.length),i<k->((fC n.dc false).getD i 0<=64∧(fC n.dc true).getD i 0<=64)) (λk=>n.dc.length-k) 0 ⟨by omega,λ_ _ h=>by omega⟩ ?_ ?_
         ·exact lq [(0,_)] []
         intro k ⟨h3,h4⟩;by_cases hk:k<n.dc.length
         ·have h5:(fC n.dc false).getD k 0=(fC n.dc false)[k]'(by omega):=gDe om;have h6:(fC n.dc true).getD k 0=(fC n.dc true)[k]'(by omega):=gDe om;repeat' ((conv=>whnf);first|exact kQ|(refine bk ?_ ?_<;>intro _<;>try(exfalso;omega))|refine stq ?_)
          all_goals(conv=>whnf)
          all_goals first
           | exact aE.int rfl
           | (refine⟨k+1,⟨by omega,ad hk h4 om⟩,by omega,?_⟩
              exact lq [(0,_)] [])
         ·exact absurd (λi hi=>h4 i hi om) hL
       ·refine⟨12,?_,λh=>by omega,λh=>absurd h.ends hE⟩;subst hO;subst hM;refine pv Tryz.func285 ?_;repeat' ((conv=>whnf);first|exact kQ|(refine bk ?_ ?_<;>intro _<;>try(exfalso;omega))|refine stq ?_|refine cp o1 ?_|refine cp m1 ?_|refine cp v1 ?_|fail)
        refine aH.by aA T0 (λk:Nat=>⟨tmp 144 [(1,.ptr 0 0),(5,ag n.dc),(6,i64 (k:Int))],⟨1,nmX n⟩⟩) (λk=>k<=n.dc.length) (λk=>n.dc.length-k) 0 om ?_ ?_
        ·exact lq [(0,_)] []
        intro k h3;by_cases hk:k<n.dc.length
        ·have hc:=ep hn.dc (hF k hk);repeat' ((conv=>whnf);first|exact kQ|(refine bk ?_ ?_<;>intro _<;>try(exfalso;omega))|refine stq ?_|refine cp hc ?_|fail)
         all_goals(conv=>whnf)
         all_goals first
          | (exfalso;omega)
          | (refine⟨k+1,by omega,by omega,?_⟩
             exact lq [(0,_)] [])
        repeat' ((conv=>whnf);first|exact kQ|(refine bk ?_ ?_<;>intro _<;>try(exfalso;omega))|refine stq ?_)
        refine aH.by aA T0 (λk:Nat=>⟨tmp 144 [(1,.ptr 0 0),(5,ag n.dc),(7,i64 (k:Int))],⟨1,nmX n⟩⟩) (λk=>k<=n.dc.length) (λk=>n.dc.length-k) 0 om ?_ ?_
        ·exact lq [(0,_)] []
        intro k h3;by_cases hk:k<n.dc.length
        ·have h5:=hT k hk;unfold lu at h5;have h6:=hn.to k hk;repeat' ((conv=>whnf);first|exact kQ|(refine bk ?_ ?_<;>intro _<;>try(exfalso;omega))|refine stq ?_)
         all_goals(conv=>whnf)
         all_goals first
          | (exfalso;rcases h5 asm with h|h<;>omega)
          | (refine⟨k+1,by omega,by omega,?_⟩
             exact lq [(0,_)] [])
        repeat' ((conv=>whnf);first|exact kQ|(refine bk ?_ ?_<;>intro _<;>try(exfalso;omega))|refine stq ?_)
        refine aH.by aA T0 (λk:Nat=>⟨tmp 144 [(1,.ptr 0 0),(5,ag n.dc),(8,i64 (k:Int))],⟨1,nmX n⟩⟩) (λk=>k<=n.dc.length) (λk=>n.dc.length-k) 0 om ?_ ?_
        ·exact lq [(0,_)] []
        intro k h3;by_cases hk:k<n.dc.length
        ·obtain⟨h5,h6⟩:=hK k hk;have h7:=hCl n.dc[k].frm;have h8:=jH (c:=n.dc[k].frm);repeat' ((conv=>whnf);first|exact kQ|(refine bk ?_ ?_<;>intro _<;>try(exfalso;omega))|refine stq ?_|refine cp h7 ?_|refine cp h8 ?_|fail)
         all_goals(conv=>whnf)
         all_goals first
          | (exfalso;omega)
          | (exfalso;have:=h6 asm;omega)
          | (refine⟨k+1,by omega,by omega,?_⟩
             exact lq [(0,_)] [])
        repeat' ((conv=>whnf);first|exact kQ|(refine bk ?_ ?_<;>intro _<;>try(exfalso;omega))|refine stq ?_|refine cp e1 ?_|fail)
        refine aH.by aA T0 (λk:Nat=>⟨tmp 144 [(1,.ptr 0 0),(5,ag n.dc),(9,tG (cW n.dc)),(10,i64 (k:Int))],⟨1,nmX n⟩⟩) (λk=>k<=n.dc.length∧∀ i (h:i<n.dc.length),i<k->(cW n.dc).getD i false=true) (λk=>n.dc.length-k) 0 ⟨by omega,λ_ _ h=>by omega⟩ ?_ ?_
        ·exact lq [(0,_)] []
        intro k ⟨h3,h4⟩;by_cases hk:k<n.dc.length
        ·have h5:(cW n.dc).getD k false=(cW n.dc)[k]'(by omega):=bR om;cases hb:(cW n.dc)[k]'(by omega) with
         | true=>
          repeat' ((conv=>whnf);first|refine Idx.atE (l:=cW n.dc) (f:=boo) k rfl om (congrArg boo hb) ?_|exact kQ|(refine bk ?_ ?_<;>intro _<;>try(exfalso;omega))|refine stq ?_|fail)
          all_goals(conv=>whnf)
          refine⟨k+1,⟨by omega,ad hk h4 (by rw[h5,hb])⟩,by omega,?_⟩;exact lq [(0,_)] []
         | false=>
          repeat' ((conv=>whnf);first|refine Idx.atE (l:=cW n.dc) (f:=boo) k rfl om (congrArg boo hb) ?_|exact kQ|(refine bk ?_ ?_<;>intro _<;>try(exfalso;omega))|refine stq ?_|fail)
          all_goals(conv=>whnf)
          exact aE.int rfl
        ·exact absurd (λi hi=>h4 i hi om) hE
      ·refine⟨11,?_,λh=>by omega,λh=>absurd h.kc hK⟩;subst hO;subst hM;refine pv Tryz.func285 ?_;repeat' ((conv=>whnf);first|exact kQ|(refine bk ?_ ?_<;>intro _<;>try(exfalso;omega))|refine stq ?_|refine cp o1 ?_|refine cp m1 ?_|refine cp v1 ?_|fail)
       refine aH.by aA T0 (λk:Nat=>⟨tmp 144 [(1,.ptr 0 0),(5,ag n.dc),(6,i64 (k:Int))],⟨1,nmX n⟩⟩) (λk=>k<=n.dc.length) (λk=>n.dc.length-k) 0 om ?_ ?_
       ·exact lq [(0,_)] []
       intro k h3;by_cases hk:k<n.dc.length
       ·have hc:=ep hn.dc (hF k hk);repeat' ((conv=>whnf);first|exact kQ|(refine bk ?_ ?_<;>intro _<;>try(exfalso;omega))|refine stq ?_|refine cp hc ?_|fail)
        all_goals(conv=>whnf)
        all_goals first
         | (exfalso;omega)
         | (refine⟨k+1,by omega,by omega,?_⟩
            exact lq [(0,_)] [])
       repeat' ((conv=>whnf);first|exact kQ|(refine bk ?_ ?_<;>intro _<;>try(exfalso;omega))|refine stq ?_)
       refine aH.by aA T0 (λk:Nat=>⟨tmp 144 [(1,.ptr 0 0),(5,ag n.dc),(7,i64 (k:Int))],⟨1,nmX n⟩⟩) (λk=>k<=n.dc.length) (λk=>n.dc.length-k) 0 om ?_ ?_
       ·exact lq [(0,_)] []
       intro k h3;by_cases hk:k<n.dc.length
       ·have h5:=hT k hk;unfold lu at h5;have h6:=hn.to k hk;repeat' ((conv=>whnf);first|exact kQ|(refine bk ?_ ?_<;>intro _<;>try(exfalso;omega))|refine stq ?_)
        all_goals(conv=>whnf)
        all_goals first
         | (exfalso;rcases h5 asm with h|h<;>omega)
         | (refine⟨k+1,by omega,by omega,?_⟩
            exact lq [(0,_)] [])
       repeat' ((conv=>whnf);first|exact kQ|(refine bk ?_ ?_<;>intro _<;>try(exfalso;omega))|refine stq ?_)
       refine aH.by aA T0 (λk:Nat=>⟨tmp 144 [(1,.ptr 0 0),(5,ag n.dc),(8,i64 (k:Int))],⟨1,nmX n⟩⟩) (λk=>k<=n.dc.length∧∀ i (h:i<n.dc.length),i<k->kcP n n.dc[i]) (λk=>n.dc.length-k) 0 ⟨by omega,λ_ _ h=>by omega⟩ ?_ ?_
       ·exact lq [(0,_)] []
       intro k ⟨h3,h4⟩;by_cases hk1:k<n.dc.length
       ·have h7:=hCl n.dc[k].frm;have h8:=jH (c:=n.dc[k].frm);repeat' ((conv=>whnf);first|exact kQ|(refine bk ?_ ?_<;>intro _<;>try(exfalso;omega))|refine stq ?_|refine cp h7 ?_|refine cp h8 ?_|fail)
        all_goals(conv=>whnf)
        all_goals first
         | exact aE.int rfl
         | (refine⟨k+1,⟨by omega,ad hk1 h4 ⟨by omega,λh=>by first|omega|exact absurd asm h|contradiction⟩⟩,by omega,?_⟩
            exact lq [(0,_)] [])
       ·exact absurd (λi hi=>h4 i hi om) hK
     ·refine⟨8,?_,λh=>by omega,λh=>absurd h.two hT⟩;subst hO;subst hM;refine pv Tryz.func285 ?_;repeat' ((conv=>whnf);first|exact kQ|(refine bk ?_ ?_<;>intro _<;>try(exfalso;omega))|refine stq ?_|refine cp o1 ?_|refine cp m1 ?_|refine cp v1 ?_|fail)
      refine aH.by aA T0 (λk:Nat=>⟨tmp 144 [(1,.ptr 0 0),(5,ag n.dc),(6,i64 (k:Int))],⟨1,nmX n⟩⟩) (λk=>k<=n.dc.length) (λk=>n.dc.length-k) 0 om ?_ ?_
      ·exact lq [(0,_)] []
      intro k h3;by_cases hk:k<n.dc.length
      ·have hc:=ep hn.dc (hF k hk);repeat' ((conv=>whnf);first|exact kQ|(refine bk ?_ ?_<;>intro _<;>try(exfalso;omega))|refine stq ?_|refine cp hc ?_|fail)
       all_goals(conv=>whnf)
       all_goals first
        | (exfalso;omega)
        | (refine⟨k+1,by omega,by omega,?_⟩
           exact lq [(0,_)] [])
      repeat' ((conv=>whnf);first|exact kQ|(refine bk ?_ ?_<;>intro _<;>try(exfalso;omega))|refine stq ?_)
      refine aH.by aA T0 (λk:Nat=>⟨tmp 144 [(1,.ptr 0 0),(5,ag n.dc),(7,i64 (k:Int))],⟨1,nmX n⟩⟩) (λk=>k<=n.dc.length∧∀ i (h:i<n.dc.length),i<k->lu n.dc[i]) (λk=>n.dc.length-k) 0 ⟨by omega,λ_ _ h=>by omega⟩ ?_ ?_
      ·exact lq [(0,_)] []
      intro k ⟨h3,h4⟩;by_cases hk:k<n.dc.length
      ·have h6:=hn.to k hk;repeat' ((conv=>whnf);first|exact kQ|(refine bk ?_ ?_<;>intro _<;>try(exfalso;omega))|refine stq ?_)
       all_goals(conv=>whnf)
       all_goals first
        | exact aE.int rfl
        | (refine⟨k+1,⟨by omega,ad hk h4 (λht=>by first|(left;omega)|(right;omega)|exact absurd ht asm)⟩,by omega,?_⟩
           exact lq [(0,_)] [])
      ·exact absurd (λi hi=>h4 i hi om) hT
    ·refine⟨5,?_,λh=>by omega,λh=>absurd h.fst hF⟩;subst hO;subst hM;refine pv Tryz.func285 ?_;repeat' ((conv=>whnf);first|exact kQ|(refine bk ?_ ?_<;>intro _<;>try(exfalso;omega))|refine stq ?_|refine cp o1 ?_|refine cp m1 ?_|refine cp v1 ?_|fail)
     refine aH.by aA T0 (λk:Nat=>⟨tmp 144 [(1,.ptr 0 0),(5,ag n.dc),(6,i64 (k:Int))],⟨1,nmX n⟩⟩) (λk=>k<=n.dc.length∧∀ i (h:i<n.dc.length),i<k->fI n.dc n.dc[i].frm true=some i) (λk=>n.dc.length-k) 0 ⟨by omega,λ_ _ h=>by omega⟩ ?_ ?_
     ·exact lq [(0,_)] []
     intro k ⟨h3,h4⟩;by_cases hk:k<n.dc.length
     ·obtain⟨j,hj,hf⟩:=GU hk;have hc:=ep hn.dc hf;repeat' ((conv=>whnf);first|exact kQ|(refine bk ?_ ?_<;>intro _<;>try(exfalso;omega))|refine stq ?_|refine cp hc ?_|fail)
      all_goals(conv=>whnf)
      all_goals first
       | exact aE.int rfl
       | (refine⟨k+1,⟨by omega,ad hk h4 (by rw[hf];congr 1;omega)⟩,by omega,?_⟩
          exact lq [(0,_)] [])
     ·exact absurd (λi hi=>h4 i hi om) hF
   ·rw[decide_eq_false hV] at v1;refine⟨11,?_,λh=>by omega,λh=>absurd h.xc hV⟩;subst hO;subst hM;refine pv Tryz.func285 ?_;repeat' ((conv=>whnf);first|exact kQ|(refine bk ?_ ?_<;>intro _<;>try(exfalso;omega))|refine stq ?_|refine cp o1 ?_|refine cp m1 ?_|refine cp v1 ?_|fail)
    all_goals(conv=>whnf)
    exact aE.int rfl
  ·refine⟨em,?_,λh=>absurd h hM,λh=>m2.2 h.dc⟩;subst hO;refine pv Tryz.func285 ?_;repeat' ((conv=>whnf);first|exact kQ|(refine bk ?_ ?_<;>intro _<;>try(exfalso;omega))|refine stq ?_|refine cp o1 ?_|refine cp m1 ?_|fail)
   all_goals(conv=>whnf)
   all_goals first
    | exact aE.same rfl rfl
    | contradiction
 ·refine⟨eo,?_,λh=>absurd h hO,λh=>o2.2 h.cl⟩;refine pv Tryz.func285 ?_;repeat' ((conv=>whnf);first|exact kQ|(refine bk ?_ ?_<;>intro _<;>try(exfalso;omega))|refine stq ?_|refine cp o1 ?_|fail)
  all_goals(conv=>whnf)
  all_goals first
   | exact aE.same rfl rfl
   | contradiction
end Go.Proofs.YtihggclfifimoaaGreatDoor
