/-
  The runs of a list, with the loop of keypack.Pack.
-/
import Derived.Test.YticpeeooobajgaaGreatDoorXE
import Derived.Test.YticpeeooobajgaaGreatDoorXF
import Derived.Test.YticpeeooobajgaaGreatDoorXG
import Derived.Test.YticpeeooobajgaaGreatDoorXH
set_option linter.unusedSectionVars false
namespace Go.Proofs.YticpeeooobajgaaGreatDoor
section
open Go Go.Am Classical
set_option maxRecDepth 100000
set_option linter.unusedVariables false
set_option maxHeartbeats 4000000
theorem xIV.rdX {p:Prop}(h:p:=by first|exact Rd.yf rfl|exact Rd.same (nbV v)|exact Rd.int om|exact Rd.nil|exact Rd.frz rfl rfl (kD rfl) (Rds.eqs rfl rfl)|exact Rd.sl' rfl sim sim|exact Rd.own sim rfl sim sim|fail):p:=h
theorem xIV.rbX {p:Prop}(h:p:=by first|exact Rb.dfr|exact rbP|fail):p:=h
open xIV
theorem zx {v:List Int}{m:Int}(hv:v.length<=100000) (hr:∀ x∈v,0<=x∧x<=65535) (hm:1<=m∧m<=65535) :
  AC1 Tryz.prog 271 [.yf 3,.iptr [aE v]] ⟨4,[(3,bE m v),(2,.dfr),(0,.cells [aT] true),(1,.cells [i64 0] true)]⟩ (.tup []) ⟨5,bJ 4 cI (pk m 0 v)++[(3,bE m v),(2,.dfr),(0,.cells [bG 4 1 (pk m 0 v)] true),(1,.cells [i64 (v.length:Int)] true)]⟩:=by
 refine AC1.of_vf aA T0 Tryz.func271 rfl rfl ?_;repeat' ((conv=>whnf);first|exact kQ|(refine bk ?_ ?_<;>intro _<;>try(exfalso;omega))|refine stq ?_)
 all_goals(conv=>whnf)
 refine aH.by2 aA T0 (λ(k:Nat) (acc:List Int)=>stP v m k acc) (λk acc=>k<=v.length∧pk m 0 v=acc++pk m 0 (v.drop k)) (λk _=>v.length-k) 0 [] ⟨by omega,rfl⟩ ?_ ?_
 ·exact lq0
 intro k acc ⟨h3,h4⟩;by_cases hk:k<v.length
 ·have g2:=gDe (d:=0) hk;have hx:=hr v[k] (kM hk)
  have hal:acc.length<=200000:=by
   have h5:=congrArg List.length h4;have h6:=iM (m:=m) v 0;simp only[kG] at h5;omega
  cases acc with
  | nil=>
   repeat' ((conv=>whnf);first|exact kQ|(refine bk ?_ ?_<;>intro _<;>try(exfalso;omega))|refine stq ?_|fail)
   all_goals(conv=>whnf)
   refine aH.by aA T0 (λe:Nat=>stQ v m k [] e) (λe=>jj v k e) (λe=>v.length-e) (k+1) (jj.start hk) ?_ ?_
   ·exact lq0
   intro e he;have hle:=he.le;by_cases he2:e<v.length
   ·have g1:=gDe (d:=0) he2;have hxe:=hr v[e] (kM he2);by_cases hs:v[e]=v[k]
    ·repeat' ((conv=>whnf);first|exact kQ|(refine bk ?_ ?_<;>intro _<;>try(exfalso;omega))|refine stq ?_|refine ab.by (id:=3) aA T0 [0,0,2,7,15,31,31,127,255,31,31,1567,3615,8191,16383] (by kernel_rfl) ?_|fail)
     all_goals(conv=>whnf)
     refine⟨e+1,he.next he2 (by rw[g1,g2];exact hs),by omega,?_⟩;exact lq0
    ·have hN:¬(e<v.length∧v.getD e 0=v.getD k 0):=λh=>hs (by rw[<-g1,<-g2];exact h.2)
     by_cases hm2:v[k]=m
     ·have hB:=he.common hN (m:=m) (by rw[g2];exact hm2);have hR:=iv (k:=k) (e:=e) om;have hD:=Nat.div_add_mod (e-k) 8;have h7:m+7=m+8-1:=by omega
      rw[h7] at hB;by_cases hr0:(e-k) % 8=0
      ·obtain⟨q,hq⟩:∃ q,(e-k) / 8=q+1:=⟨(e-k) / 8-1,by omega⟩;have hy:=DI hv hm hk hx hle hm2 hq hr0;repeat' ((conv=>whnf);first|exact kQ|(refine bk ?_ ?_<;>intro _<;>try(exfalso;omega))|refine stq ?_|refine Yll.y1 hy ?_|fail)
       all_goals(conv=>whnf)
       refine⟨e,[]++((m+8-1)::List.replicate q (m+8-1)),⟨by omega,by rw[h4,hB,hr0,js,hq,List.append_assoc];rfl⟩,by omega,?_⟩;exact lq [(4,29)] []
      ·cases hq:(e-k) / 8 with
       | zero=>
        by_cases hlt:v[e]<m
        ·have hy:=yPZ2n hv hm hk hx hle hm2 hq hr0 he2 hlt;repeat' ((conv=>whnf);first|exact kQ|(refine bk ?_ ?_<;>intro _<;>try(exfalso;omega))|refine stq ?_|refine Yll.y1 hy ?_|fail)
         all_goals(conv=>whnf)
         refine⟨e,[]++[]++[m+Int.tmod ((e:Int)-(k:Int)) 8-1],⟨by omega,by rw[h4,hB,fE hr0 (.inr (by rw[g1];exact hlt)),hR,hq];simp only[List.append_assoc];rfl⟩,by omega,?_⟩;exact lq [(4,29)] []
        ·have hy:=yPZ3n hv hm hk hx hle hm2 hq hr0 he2 hlt;repeat' ((conv=>whnf);first|exact kQ|(refine bk ?_ ?_<;>intro _<;>try(exfalso;omega))|refine stq ?_|refine Yll.y1 hy ?_|fail)
         all_goals(conv=>whnf)
         refine⟨e,[]++[]++[m+16-1-Int.tmod ((e:Int)-(k:Int)) 8],⟨by omega,by rw[h4,hB,jt hr0 he2 (by rw[g1];exact hlt),hR,hq,show m+16-1-(((e-k) % 8:Nat):Int)=m+15-(((e-k) % 8:Nat):Int) by omega];simp only[List.append_assoc];rfl⟩,by omega,?_⟩;exact lq [(4,29)] []
       | succ q=>
        by_cases hlt:v[e]<m
        ·have hy:=yPS2n hv hm hk hx hle hm2 hq hr0 he2 hlt;repeat' ((conv=>whnf);first|exact kQ|(refine bk ?_ ?_<;>intro _<;>try(exfalso;omega))|refine stq ?_|refine Yll.y1 hy ?_|fail)
         all_goals(conv=>whnf)
         refine⟨e,[]++((m+8-1)::List.replicate q (m+8-1))++[m+Int.tmod ((e:Int)-(k:Int)) 8-1],⟨by omega,by rw[h4,hB,fE hr0 (.inr (by rw[g1];exact hlt)),hR,hq];simp only[List.append_assoc];rfl⟩,by omega,?_⟩;exact lq [(4,29)] []
        ·have hy:=yPS3n hv hm hk hx hle hm2 hq hr0 he2 hlt;repeat' ((conv=>whnf);first|exact kQ|(refine bk ?_ ?_<;>intro _<;>try(exfalso;omega))|refine stq ?_|refine Yll.y1 hy ?_|fail)
         all_goals(conv=>whnf)
         refine⟨e,[]++((m+8-1)::List.replicate q (m+8-1))++[m+16-1-Int.tmod ((e:Int)-(k:Int)) 8],⟨by omega,by rw[h4,hB,jt hr0 he2 (by rw[g1];exact hlt),hR,hq,show m+16-1-(((e-k) % 8:Nat):Int)=m+15-(((e-k) % 8:Nat):Int) by omega];simp only[List.append_assoc];rfl⟩,by omega,?_⟩;exact lq [(4,29)] []
     ·have hA:=he.other (m:=m) (by rw[g2];exact hm2);rw[g2] at hA;obtain⟨q,hq⟩:∃ q,e-k=q+1:=⟨e-k-1,by omega⟩;rw[hq] at hA;by_cases hmv:m<v[k]
      ·have hy:=DN hv hm hk hx hle hmv hq;repeat' ((conv=>whnf);first|exact kQ|(refine bk ?_ ?_<;>intro _<;>try(exfalso;omega))|refine stq ?_|refine Yll.y1 hy ?_|fail)
       all_goals(conv=>whnf)
       refine⟨e,[]++(v[k]+14)::List.replicate q (v[k]+14),⟨by omega,by rw[h4,hA,enc,if_pos hmv,List.append_assoc];rfl⟩,by omega,?_⟩;exact lq [(4,29)] []
      ·have hy:=DK hv hm hk hx hle om hq;repeat' ((conv=>whnf);first|exact kQ|(refine bk ?_ ?_<;>intro _<;>try(exfalso;omega))|refine stq ?_|refine Yll.y1 hy ?_|fail)
       all_goals(conv=>whnf)
       refine⟨e,[]++v[k]::List.replicate q v[k],⟨by omega,by rw[h4,hA,enc,if_neg hmv,List.append_assoc];rfl⟩,by omega,?_⟩;exact lq [(4,29)] []
   ·have hN:¬(e<v.length∧v.getD e 0=v.getD k 0):=λh=>he2 h.1
    by_cases hm2:v[k]=m
    ·have hB:=he.common hN (m:=m) (by rw[g2];exact hm2);have hR:=iv (k:=k) (e:=e) om;have hD:=Nat.div_add_mod (e-k) 8;have h7:m+7=m+8-1:=by omega
     rw[h7] at hB;by_cases hr0:(e-k) % 8=0
     ·obtain⟨q,hq⟩:∃ q,(e-k) / 8=q+1:=⟨(e-k) / 8-1,by omega⟩;have hy:=DI hv hm hk hx hle hm2 hq hr0;repeat' ((conv=>whnf);first|exact kQ|(refine bk ?_ ?_<;>intro _<;>try(exfalso;omega))|refine stq ?_|refine Yll.y1 hy ?_|fail)
      all_goals(conv=>whnf)
      refine⟨e,[]++((m+8-1)::List.replicate q (m+8-1)),⟨by omega,by rw[h4,hB,hr0,js,hq,List.append_assoc];rfl⟩,by omega,?_⟩;exact lq [(4,29)] []
     ·cases hq:(e-k) / 8 with
      | zero=>
       have hy:=yPZ1n hv hm hk hx hle hm2 hq hr0 he2;repeat' ((conv=>whnf);first|exact kQ|(refine bk ?_ ?_<;>intro _<;>try(exfalso;omega))|refine stq ?_|refine Yll.y1 hy ?_|fail)
       all_goals(conv=>whnf)
       refine⟨e,[]++[]++[m+Int.tmod ((e:Int)-(k:Int)) 8-1],⟨by omega,by rw[h4,hB,fE hr0 (.inl he2),hR,hq];simp only[List.append_assoc];rfl⟩,by omega,?_⟩;exact lq [(4,29)] []
      | succ q=>
       have hy:=yPS1n hv hm hk hx hle hm2 hq hr0 he2;repeat' ((conv=>whnf);first|exact kQ|(refine bk ?_ ?_<;>intro _<;>try(exfalso;omega))|refine stq ?_|refine Yll.y1 hy ?_|fail)
       all_goals(conv=>whnf)
       refine⟨e,[]++((m+8-1)::List.replicate q (m+8-1))++[m+Int.tmod ((e:Int)-(k:Int)) 8-1],⟨by omega,by rw[h4,hB,fE hr0 (.inl he2),hR,hq];simp only[List.append_assoc];rfl⟩,by omega,?_⟩;exact lq [(4,29)] []
    ·have hA:=he.other (m:=m) (by rw[g2];exact hm2);rw[g2] at hA;obtain⟨q,hq⟩:∃ q,e-k=q+1:=⟨e-k-1,by omega⟩;rw[hq] at hA;by_cases hmv:m<v[k]
     ·have hy:=DN hv hm hk hx hle hmv hq;repeat' ((conv=>whnf);first|exact kQ|(refine bk ?_ ?_<;>intro _<;>try(exfalso;omega))|refine stq ?_|refine Yll.y1 hy ?_|fail)
      all_goals(conv=>whnf)
      refine⟨e,[]++(v[k]+14)::List.replicate q (v[k]+14),⟨by omega,by rw[h4,hA,enc,if_pos hmv,List.append_assoc];rfl⟩,by omega,?_⟩;exact lq [(4,29)] []
     ·have hy:=DK hv hm hk hx hle om hq;repeat' ((conv=>whnf);first|exact kQ|(refine bk ?_ ?_<;>intro _<;>try(exfalso;omega))|refine stq ?_|refine Yll.y1 hy ?_|fail)
      all_goals(conv=>whnf)
      refine⟨e,[]++v[k]::List.replicate q v[k],⟨by omega,by rw[h4,hA,enc,if_neg hmv,List.append_assoc];rfl⟩,by omega,?_⟩;exact lq [(4,29)] []
  | cons x xs=>
   have hx2:(x::xs).length=xs.length+1:=rfl;repeat' ((conv=>whnf);first|exact kQ|(refine bk ?_ ?_<;>intro _<;>try(exfalso;omega))|refine stq ?_|fail)
   all_goals(conv=>whnf)
   refine aH.by aA T0 (λe:Nat=>stQ v m k (x::xs) e) (λe=>jj v k e) (λe=>v.length-e) (k+1) (jj.start hk) ?_ ?_
   ·exact lq [(4,4)] []
   intro e he;have hle:=he.le;by_cases he2:e<v.length
   ·have g1:=gDe (d:=0) he2;have hxe:=hr v[e] (kM he2);by_cases hs:v[e]=v[k]
    ·repeat' ((conv=>whnf);first|exact kQ|(refine bk ?_ ?_<;>intro _<;>try(exfalso;omega))|refine stq ?_|refine ab.by (id:=3) aA T0 [0,0,2,7,15,31,31,127,255,31,31,1567,3615,8191,16383] (by kernel_rfl) ?_|fail)
     all_goals(conv=>whnf)
     refine⟨e+1,he.next he2 (by rw[g1,g2];exact hs),by omega,?_⟩;exact lq [(4,4)] []
    ·have hN:¬(e<v.length∧v.getD e 0=v.getD k 0):=λh=>hs (by rw[<-g1,<-g2];exact h.2)
     by_cases hm2:v[k]=m
     ·have hB:=he.common hN (m:=m) (by rw[g2];exact hm2);have hR:=iv (k:=k) (e:=e) om;have hD:=Nat.div_add_mod (e-k) 8;have h7:m+7=m+8-1:=by omega
      rw[h7] at hB;by_cases hr0:(e-k) % 8=0
      ·obtain⟨q,hq⟩:∃ q,(e-k) / 8=q+1:=⟨(e-k) / 8-1,by omega⟩;have hy:=DJ hv hm hk hx hle hal hm2 hq hr0;repeat' ((conv=>whnf);first|exact kQ|(refine bk ?_ ?_<;>intro _<;>try(exfalso;omega))|refine stq ?_|refine Yll.y1 hy ?_|fail)
       all_goals(conv=>whnf)
       refine⟨e,(x::xs)++((m+8-1)::List.replicate q (m+8-1)),⟨by omega,by rw[h4,hB,hr0,js,hq,List.append_assoc];rfl⟩,by omega,?_⟩;exact lq [(4,29)] []
      ·cases hq:(e-k) / 8 with
       | zero=>
        by_cases hlt:v[e]<m
        ·have hy:=yPZ2c hv hm hk hx hle hal hm2 hq hr0 he2 hlt;repeat' ((conv=>whnf);first|exact kQ|(refine bk ?_ ?_<;>intro _<;>try(exfalso;omega))|refine stq ?_|refine Yll.y1 hy ?_|fail)
         all_goals(conv=>whnf)
         refine⟨e,(x::xs)++[]++[m+Int.tmod ((e:Int)-(k:Int)) 8-1],⟨by omega,by rw[h4,hB,fE hr0 (.inr (by rw[g1];exact hlt)),hR,hq];simp only[List.append_assoc];rfl⟩,by omega,?_⟩;exact lq [(4,29)] []
        ·have hy:=yPZ3c hv hm hk hx hle hal hm2 hq hr0 he2 hlt;repeat' ((conv=>whnf);first|exact kQ|(refine bk ?_ ?_<;>intro _<;>try(exfalso;omega))|refine stq ?_|refine Yll.y1 hy ?_|fail)
         all_goals(conv=>whnf)
         refine⟨e,(x::xs)++[]++[m+16-1-Int.tmod ((e:Int)-(k:Int)) 8],⟨by omega,by rw[h4,hB,jt hr0 he2 (by rw[g1];exact hlt),hR,hq,show m+16-1-(((e-k) % 8:Nat):Int)=m+15-(((e-k) % 8:Nat):Int) by omega];simp only[List.append_assoc];rfl⟩,by omega,?_⟩;exact lq [(4,29)] []
       | succ q=>
        by_cases hlt:v[e]<m
        ·have hy:=yPS2c hv hm hk hx hle hal hm2 hq hr0 he2 hlt;repeat' ((conv=>whnf);first|exact kQ|(refine bk ?_ ?_<;>intro _<;>try(exfalso;omega))|refine stq ?_|refine Yll.y1 hy ?_|fail)
         all_goals(conv=>whnf)
         refine⟨e,(x::xs)++((m+8-1)::List.replicate q (m+8-1))++[m+Int.tmod ((e:Int)-(k:Int)) 8-1],⟨by omega,by rw[h4,hB,fE hr0 (.inr (by rw[g1];exact hlt)),hR,hq];simp only[List.append_assoc];rfl⟩,by omega,?_⟩;exact lq [(4,29)] []
        ·have hy:=yPS3c hv hm hk hx hle hal hm2 hq hr0 he2 hlt;repeat' ((conv=>whnf);first|exact kQ|(refine bk ?_ ?_<;>intro _<;>try(exfalso;omega))|refine stq ?_|refine Yll.y1 hy ?_|fail)
         all_goals(conv=>whnf)
         refine⟨e,(x::xs)++((m+8-1)::List.replicate q (m+8-1))++[m+16-1-Int.tmod ((e:Int)-(k:Int)) 8],⟨by omega,by rw[h4,hB,jt hr0 he2 (by rw[g1];exact hlt),hR,hq,show m+16-1-(((e-k) % 8:Nat):Int)=m+15-(((e-k) % 8:Nat):Int) by omega];simp only[List.append_assoc];rfl⟩,by omega,?_⟩;exact lq [(4,29)] []
     ·have hA:=he.other (m:=m) (by rw[g2];exact hm2);rw[g2] at hA;obtain⟨q,hq⟩:∃ q,e-k=q+1:=⟨e-k-1,by omega⟩;rw[hq] at hA;by_cases hmv:m<v[k]
      ·have hy:=DO hv hm hk hx hle hal hmv hq;repeat' ((conv=>whnf);first|exact kQ|(refine bk ?_ ?_<;>intro _<;>try(exfalso;omega))|refine stq ?_|refine Yll.y1 hy ?_|fail)
       all_goals(conv=>whnf)
       refine⟨e,(x::xs)++(v[k]+14)::List.replicate q (v[k]+14),⟨by omega,by rw[h4,hA,enc,if_pos hmv,List.append_assoc];rfl⟩,by omega,?_⟩;exact lq [(4,29)] []
      ·have hy:=DM hv hm hk hx hle hal om hq;repeat' ((conv=>whnf);first|exact kQ|(refine bk ?_ ?_<;>intro _<;>try(exfalso;omega))|refine stq ?_|refine Yll.y1 hy ?_|fail)
       all_goals(conv=>whnf)
       refine⟨e,(x::xs)++v[k]::List.replicate q v[k],⟨by omega,by rw[h4,hA,enc,if_neg hmv,List.append_assoc];rfl⟩,by omega,?_⟩;exact lq [(4,29)] []
   ·have hN:¬(e<v.length∧v.getD e 0=v.getD k 0):=λh=>he2 h.1
    by_cases hm2:v[k]=m
    ·have hB:=he.common hN (m:=m) (by rw[g2];exact hm2);have hR:=iv (k:=k) (e:=e) om;have hD:=Nat.div_add_mod (e-k) 8;have h7:m+7=m+8-1:=by omega
     rw[h7] at hB;by_cases hr0:(e-k) % 8=0
     ·obtain⟨q,hq⟩:∃ q,(e-k) / 8=q+1:=⟨(e-k) / 8-1,by omega⟩;have hy:=DJ hv hm hk hx hle hal hm2 hq hr0;repeat' ((conv=>whnf);first|exact kQ|(refine bk ?_ ?_<;>intro _<;>try(exfalso;omega))|refine stq ?_|refine Yll.y1 hy ?_|fail)
      all_goals(conv=>whnf)
      refine⟨e,(x::xs)++((m+8-1)::List.replicate q (m+8-1)),⟨by omega,by rw[h4,hB,hr0,js,hq,List.append_assoc];rfl⟩,by omega,?_⟩;exact lq [(4,29)] []
     ·cases hq:(e-k) / 8 with
      | zero=>
       have hy:=yPZ1c hv hm hk hx hle hal hm2 hq hr0 he2;repeat' ((conv=>whnf);first|exact kQ|(refine bk ?_ ?_<;>intro _<;>try(exfalso;omega))|refine stq ?_|refine Yll.y1 hy ?_|fail)
       all_goals(conv=>whnf)
       refine⟨e,(x::xs)++[]++[m+Int.tmod ((e:Int)-(k:Int)) 8-1],⟨by omega,by rw[h4,hB,fE hr0 (.inl he2),hR,hq];simp only[List.append_assoc];rfl⟩,by omega,?_⟩;exact lq [(4,29)] []
      | succ q=>
       have hy:=yPS1c hv hm hk hx hle hal hm2 hq hr0 he2;repeat' ((conv=>whnf);first|exact kQ|(refine bk ?_ ?_<;>intro _<;>try(exfalso;omega))|refine stq ?_|refine Yll.y1 hy ?_|fail)
       all_goals(conv=>whnf)
       refine⟨e,(x::xs)++((m+8-1)::List.replicate q (m+8-1))++[m+Int.tmod ((e:Int)-(k:Int)) 8-1],⟨by omega,by rw[h4,hB,fE hr0 (.inl he2),hR,hq];simp only[List.append_assoc];rfl⟩,by omega,?_⟩;exact lq [(4,29)] []
    ·have hA:=he.other (m:=m) (by rw[g2];exact hm2);rw[g2] at hA;obtain⟨q,hq⟩:∃ q,e-k=q+1:=⟨e-k-1,by omega⟩;rw[hq] at hA;by_cases hmv:m<v[k]
     ·have hy:=DO hv hm hk hx hle hal hmv hq;repeat' ((conv=>whnf);first|exact kQ|(refine bk ?_ ?_<;>intro _<;>try(exfalso;omega))|refine stq ?_|refine Yll.y1 hy ?_|fail)
      all_goals(conv=>whnf)
      refine⟨e,(x::xs)++(v[k]+14)::List.replicate q (v[k]+14),⟨by omega,by rw[h4,hA,enc,if_pos hmv,List.append_assoc];rfl⟩,by omega,?_⟩;exact lq [(4,29)] []
     ·have hy:=DM hv hm hk hx hle hal om hq;repeat' ((conv=>whnf);first|exact kQ|(refine bk ?_ ?_<;>intro _<;>try(exfalso;omega))|refine stq ?_|refine Yll.y1 hy ?_|fail)
      all_goals(conv=>whnf)
      refine⟨e,(x::xs)++v[k]::List.replicate q v[k],⟨by omega,by rw[h4,hA,enc,if_neg hmv,List.append_assoc];rfl⟩,by omega,?_⟩;exact lq [(4,29)] []
 ·obtain rfl:k=v.length:=by omega
  rw[List.drop_length,show pk m 0 []=[] from rfl,List.append_nil] at h4;subst h4;cases hp:pk m 0 v with
  | nil=>
   repeat' ((conv=>whnf);first|exact kQ|(refine bk ?_ ?_<;>intro _<;>try(exfalso;omega))|refine stq ?_|fail)
   all_goals(conv=>whnf)
   refine⟨Or.inl rfl,_,rfl,?_⟩;exact lq0
  | cons x xs=>
   repeat' ((conv=>whnf);first|exact kQ|(refine bk ?_ ?_<;>intro _<;>try(exfalso;omega))|refine stq ?_|fail)
   all_goals(conv=>whnf)
   refine⟨Or.inl rfl,_,rfl,?_⟩;exact lq [(4,4)] []
end
section
open Go Go.Am Classical
set_option maxRecDepth 100000
set_option linter.unusedVariables false
theorem xIZ.rdX {p:Prop}(h:p:=by first|exact Rd.sl' rfl om om|exact Rd.frzp rfl rfl (Rds.same rfl)|exact Rd.nil|exact Rd.same (nbV (l.map clp))|exact Rd.fn .nil (.cons (.frzp rfl rfl (.cons (.same (aG _)) .nil)) .nil)|exact Rd.frzp rfl rfl (Rds.cons (Rd.frzI rfl rfl sim rfl (by first|(rw[B3,aD];done)|fail)) Rds.nil)|fail):p:=h
theorem xIZ.rbX {p:Prop}(h:p:=by first|exact Rb.cells (Rds.eqs (zX om) (aN (λ_=>rfl) _)) rfl|exact Rb.cells (Rds.eqs (by first|(rw[<-B0 hi hc];simp;done)|fail) (aN (λ_=>rfl) _)) rfl|exact Rb.cells (Rds.eqs (by first|(rw[zY hi hc];done)|fail) (aN (λ_=>rfl) _)) rfl|fail):p:=h
open xIZ
def clp (x:Int):Int:=if 0<=x∧x<=65535 then x else 0
theorem Cv (l:List Int):∀ x∈l.map clp,0<=x∧x<=65535:=by
 intro x hx;obtain⟨y,_,rfl⟩:=List.mem_map.1 hx;unfold clp;split<;>omega
theorem sC {l:List Int}(h:∀ x∈l,0<=x∧x<=65535):l.map clp=l:=by
 have e:l.map clp=l.map id:=List.map_congr_left λx hx=>if_pos (h x hx)
 rw[e,List.map_id]
def vlF (l:List Int) (i:Nat):List Int:=(l.take i).map clp++List.replicate (l.length-i) 0
theorem wO {l:List Int}{i:Nat}(h:i<=l.length):(vlF l i).length=l.length:=by simp[vlF];omega
theorem B0 {l:List Int}{i:Nat}(h:i<l.length) (hc:0<=l[i]∧l[i]<=65535):(vlF l i).set i l[i]=vlF l (i+1):=by
 unfold vlF;rw[List.set_append_right _ _ (by simp;omega),List.take_succ_eq_append_getElem h,List.map_append,List.append_assoc];congr 1;have e1:i-((l.take i).map clp).length=0:=by simp;omega
 rw[e1,show l.length-i=(l.length-(i+1))+1 by omega,List.replicate_succ,List.set_cons_zero];show _=clp l[i]::_;rw[clp,if_pos hc];rfl
theorem zY {l:List Int}{i:Nat}(h:i<l.length) (hc:¬(0<=l[i]∧l[i]<=65535)):vlF l (i+1)=vlF l i:=by
 unfold vlF;rw[List.take_succ_eq_append_getElem h,List.map_append,List.append_assoc,show l.length-i=(l.length-(i+1))+1 by omega,List.replicate_succ];show _++(clp l[i]::_)=_;rw[clp,if_neg hc];rfl
theorem B3 {l:List Int}:vlF l l.length=l.map clp:=by simp[vlF]
theorem zX {l:List Int}{n:Nat}(h:n=l.length):cY [i64 0] n=(vlF l 0).map i64:=by subst h;rw[@dS];simp[vlF]
set_option maxHeartbeats 4000000 in
theorem rg {l:List Int}{cm:Int}(hl:l.length<=100000):Pu Tryz.prog 75 [aE l,i64 cm] (aE (pk (cmn cm) 0 (l.map clp))):=by
 have hcm:=BF (m:=cm);have hp:1<=cmn cm∧cmn cm<=65535:=by unfold cmn;split<;>omega
 generalize cmn cm=m at *;have h1:=zx (v:=l.map clp) (m:=m) (by simpa using hl) (Cv l) hp;cases hpk:pk m 0 (l.map clp) with
 | nil=>
  rw[hpk] at h1;refine Pu.of_fw (ti:=lP Tryz.prog) Tryz.func75 rfl rfl (by simp[aJ,aL,aG]) ?_;repeat' ((conv=>whnf);first|refine Fw.range aA T0 rfl h1 rfl si ?_|exact kQ|(refine bk ?_ ?_<;>intro _<;>try(exfalso;omega))|refine stq ?_|refine cp hcm ?_|refine Fw.split ?_|refine Fw.one (x:=Code.region _ _ _) aA T0 ?_|refine Fw.one (x:=Code.block 0 _) aA T0 ?_|fail)
  all_goals(conv=>whnf)
  refine aH.by aA T0 (λi:Nat=>⟨tmp 99 [(5,.ptr 0 0),(6,.ptr 1 0),(19,aE l),(20,i64 (l.length:Int)),(21,i64 (i:Int))],⟨3,[(0,.cells [i64 m] true),(1,.cells [.sl 2 0 l.length l.length 1 true] true),(2,.cells ((vlF l i).map i64) true)]⟩⟩) (λi=>i<=l.length) (λi=>l.length-i) 0 om ?_ ?_
  ·exact lq [(0,3),(1,8),(2,7)] []
  intro i hi0;have hvl:=wO hi0;by_cases hi:i<l.length
  ·by_cases hc:0<=l[i]∧l[i]<=65535
   ·repeat' ((conv=>whnf);first|exact kQ|(refine bk ?_ ?_<;>intro _<;>try(exfalso;omega))|refine stq ?_|refine az.at i om om ?_|refine Put.oneO (by simp;omega) ?_|fail)
    all_goals(conv=>whnf)
    refine⟨i+1,by omega,by omega,?_⟩;exact lq [(0,0),(1,1),(2,2)] []
   ·repeat' ((conv=>whnf);first|exact kQ|(refine bk ?_ ?_<;>intro _<;>try(exfalso;omega))|refine stq ?_|fail)
    all_goals(conv=>whnf)
    all_goals
     refine⟨i+1,by omega,by omega,?_⟩;exact lq [(0,0),(1,1),(2,2)] []
  ·obtain rfl:i=l.length:=by omega
   repeat' ((conv=>whnf);first|refine Fw.range aA T0 rfl h1 rfl si ?_|exact kQ|(refine bk ?_ ?_<;>intro _<;>try(exfalso;omega))|refine stq ?_|refine Fw.split ?_|refine Fw.weak (code:=Code.region 11 _ _::_) (s':=⟨tmp 99 [(5,.iptr [i64 m]),(6,.iptr [aE (l.map clp)]),(9,.ptr 0 0),(10,.ptr 1 0)],⟨2,[(0,.cells [aT] true),(1,.cells [i64 0] true)]⟩⟩) ?_ (Fw.one (x:=Code.region _ _ _) aA T0 ?_)|refine Fw.one (x:=Code.region _ _ _) aA T0 ?_|refine Fw.weak (code:=Code.block _ _::_) (s':=⟨tmp 99 [(5,.iptr [i64 m]),(6,.iptr [aE (l.map clp)]),(9,.ptr 0 0),(10,.ptr 1 0),(38,rnP (l.map clp))],⟨2,[(0,.cells [aT] true),(1,.cells [i64 0] true)]⟩⟩) ?_ ?_|refine Cll.pk tq ?_|fail)
   ·exact lq [(0,4),(1,5)] [0,1,2]
   ·exact lq [(0,0),(1,1)] [4]
   all_goals(conv=>whnf)
   first
    | exact⟨rfl,_,rfl,⟨.nil⟩⟩
    | exact⟨rfl,_,rfl,aI.frz1 rfl (aD _) rfl (λ_=>rfl) rfl⟩
 | cons x xs=>
  rw[hpk] at h1;refine Pu.of_fw (ti:=lP Tryz.prog) Tryz.func75 rfl rfl (by simp[aJ,aL,aG]) ?_;repeat' ((conv=>whnf);first|refine Fw.range aA T0 rfl h1 rfl si ?_|exact kQ|(refine bk ?_ ?_<;>intro _<;>try(exfalso;omega))|refine stq ?_|refine cp hcm ?_|refine Fw.split ?_|refine Fw.one (x:=Code.region _ _ _) aA T0 ?_|refine Fw.one (x:=Code.block 0 _) aA T0 ?_|fail)
  all_goals(conv=>whnf)
  refine aH.by aA T0 (λi:Nat=>⟨tmp 99 [(5,.ptr 0 0),(6,.ptr 1 0),(19,aE l),(20,i64 (l.length:Int)),(21,i64 (i:Int))],⟨3,[(0,.cells [i64 m] true),(1,.cells [.sl 2 0 l.length l.length 1 true] true),(2,.cells ((vlF l i).map i64) true)]⟩⟩) (λi=>i<=l.length) (λi=>l.length-i) 0 om ?_ ?_
  ·exact lq [(0,3),(1,8),(2,7)] []
  intro i hi0;have hvl:=wO hi0;by_cases hi:i<l.length
  ·by_cases hc:0<=l[i]∧l[i]<=65535
   ·repeat' ((conv=>whnf);first|exact kQ|(refine bk ?_ ?_<;>intro _<;>try(exfalso;omega))|refine stq ?_|refine az.at i om om ?_|refine Put.oneO (by simp;omega) ?_|fail)
    all_goals(conv=>whnf)
    refine⟨i+1,by omega,by omega,?_⟩;exact lq [(0,0),(1,1),(2,2)] []
   ·repeat' ((conv=>whnf);first|exact kQ|(refine bk ?_ ?_<;>intro _<;>try(exfalso;omega))|refine stq ?_|fail)
    all_goals(conv=>whnf)
    all_goals
     refine⟨i+1,by omega,by omega,?_⟩;exact lq [(0,0),(1,1),(2,2)] []
  ·obtain rfl:i=l.length:=by omega
   repeat' ((conv=>whnf);first|refine Fw.range aA T0 rfl h1 rfl si ?_|exact kQ|(refine bk ?_ ?_<;>intro _<;>try(exfalso;omega))|refine stq ?_|refine Fw.split ?_|refine Fw.weak (code:=Code.region 11 _ _::_) (s':=⟨tmp 99 [(5,.iptr [i64 m]),(6,.iptr [aE (l.map clp)]),(9,.ptr 0 0),(10,.ptr 1 0)],⟨2,[(0,.cells [aT] true),(1,.cells [i64 0] true)]⟩⟩) ?_ (Fw.one (x:=Code.region _ _ _) aA T0 ?_)|refine Fw.one (x:=Code.region _ _ _) aA T0 ?_|refine Fw.weak (code:=Code.block _ _::_) (s':=⟨tmp 99 [(5,.iptr [i64 m]),(6,.iptr [aE (l.map clp)]),(9,.ptr 0 0),(10,.ptr 1 0),(38,rnP (l.map clp))],⟨2,[(0,.cells [aT] true),(1,.cells [i64 0] true)]⟩⟩) ?_ ?_|refine Cll.pk tq ?_|fail)
   ·exact lq [(0,4),(1,5)] [0,1,2]
   ·exact lq [(0,0),(1,1)] [4]
   all_goals(conv=>whnf)
   first
    | exact⟨rfl,_,rfl,⟨.nil⟩⟩
    | exact⟨rfl,_,rfl,aI.frz1 rfl (aD _) rfl (λ_=>rfl) rfl⟩
end
end Go.Proofs.YticpeeooobajgaaGreatDoor
