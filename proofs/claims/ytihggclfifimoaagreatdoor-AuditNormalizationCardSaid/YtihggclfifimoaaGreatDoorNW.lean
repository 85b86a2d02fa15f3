/-
  Contracts over data: slices.SortStableFunc of numbers: the comparison, insertion.
-/
import Derived.Test.YtihggclfifimoaaGreatDoorNK
set_option linter.unusedSectionVars false
namespace Go.Proofs.YtihggclfifimoaaGreatDoor
open Go Go.Am Classical
set_option maxHeartbeats 8000000
set_option maxRecDepth 100000
section
set_option linter.unusedVariables false
theorem xNW.rdX {p:Prop}(h:p:=by first|exact Rd.same (nbF _)|fail):p:=h
theorem xNW.rbX {p:Prop}(h:p:=by first|exact Rb.cells (Rds.eqs (nr om om) (aN (λ_=>rfl) _)) rfl|exact Rb.cells (Rds.eqs (by first|(rw[h1];done)|fail) (aN (λ_=>rfl) _)) rfl|exact Rb.cells (Rds.eqs (by first|(rw[e2,hR];done)|fail) (aN (λ_=>rfl) _)) rfl|fail):p:=h
open xNW
theorem arg2 {cl:List Spn}{x y:Int}(e:[bC cl,i64 y]=[bC cl,i64 x]):i64 (aJ cl x)=i64 (aJ cl y):=by
 injection e with _ e;injection e with e _;injection e with e;injection e with _ e;rw[e]
theorem tj {cl:List Spn}(hn:cl.length<=1000) (hr:lA cl){x y:Int}:Pu Tryz.prog 274 [i64 x,i64 y,.iptr [bC cl]] (i64 (e8 (aJ cl x) (aJ cl y))):=by
 refine pv Tryz.func274 ?_;repeat' ((conv=>whnf);first|exact kQ|(refine bk ?_ ?_<;>intro _<;>try(exfalso;omega))|refine stq ?_|refine aX.by (id:=1) aA T0 [0,0,3,0,0,31,63,127] (by kernel_rfl) ?_|refine cp (lT hn hr) ?_|refine cp dZ ?_|refine Chk.mk (λe=>arg2 e) ?_|refine Chk.mk ⟨_,rfl⟩ ?_|fail)
 all_goals(conv=>whnf)
 exact aE.int rfl
theorem HS {cl:List Spn}(hcl:cl.length<=1000) (hr:lA cl){P A S:List Int}{o n c a b:Nat}(hl:(P++(A++S)).length<=100000) (hp:P.length=o+a) (hb:b=a+A.length) (hbn:b<=n) (hon:o+n<=(P++(A++S)).length) (hm:Mk (aJ cl) A) :
  AC1 Tryz.prog 387 [slO o n c,i64 a,i64 b,cJ cl] ⟨1,[(0,.cells ((P++(A++S)).map bT) false)]⟩ (.tup []) ⟨4,[(0,.cells ((P++(can (aJ cl) A++S)).map bT) false)]⟩:=by
 refine AC1.of_vf aA T0 Tryz.func387 rfl rfl ?_;simp only[kG] at hl hon
 have h1:can (aJ cl) (A.take 1)++(A.drop 1++S)=A++S:=by
  cases A with
  | nil=>rfl
  | cons x A=>rfl
 repeat' ((conv=>whnf);first|exact kQ|(refine bk ?_ ?_<;>intro _<;>try(exfalso;omega))|refine stq ?_)
 refine aH.by aA T0 (λi:Nat=>⟨tmp 53 [(0,slO o n c),(1,i64 a),(2,i64 b),(3,cJ cl),(8,i64 ((a+(i+1):Nat):Int))],⟨1,[(0,.cells ((P++(can (aJ cl) (A.take (i+1))++(A.drop (i+1)++S))).map bT) false)]⟩⟩)
  (λi=>i<=A.length) (λi=>A.length-i) 0 om ?_ ?_
 ·exact lq0
 intro i h2;by_cases h3:i+1<A.length
 ·have e1:A.drop (i+1)=A[i+1]::A.drop (i+2):=kK h3;have e2:A.take (i+2)=A.take (i+1)++[A[i+1]]:=by rw[List.take_succ_eq_append_getElem h3]
  have hmk:Mk (aJ cl) (A.take (i+1)++[A[i+1]]):=by rw[<-e2];exact λx hx=>hm x (List.mem_of_mem_take hx)
  have hI:=js.start (cls:=aJ cl) P (A.take (i+1)) A[i+1] (A.drop (i+2)++S);rw[show(A.take (i+1)).length=i+1 by simp;omega] at hI;rw[e1];have e3:(P++(can (aJ cl) (A.take (i+1))++(A[i+1]::A.drop (i+2)++S)))=P++(can (aJ cl) (A.take (i+1))++A[i+1]::(A.drop (i+2)++S)):=rfl;rw[e3];generalize A[i+1]=y at *;have hla:(A.take (i+1)).length=i+1:=by simp;omega
  generalize A.take (i+1)=A' at *;have hlr:(A.drop (i+2)++S).length+(i+2)=A.length+S.length:=by simp;omega
  generalize hR:A.drop (i+2)++S=R at *;generalize P++(can (aJ cl) A' ++ y::R)=cur0 at *;repeat' ((conv=>whnf);first|exact kQ|(refine bk ?_ ?_<;>intro _<;>try(exfalso;omega))|refine stq ?_|fail)
  refine aH.by2 aA T0 (λ(j:Nat) (cur:List Int)=>⟨tmp 53 [(0,slO o n c),(1,i64 a),(2,i64 b),(3,cJ cl),(8,i64 ((a+(i+1):Nat):Int)),(9,i64 ((a+j:Nat):Int))],⟨1,[(0,.cells (cur.map bT) false)]⟩⟩)
   (λj cur=>js (aJ cl) P A' y R j cur) (λj _=>j) (i+1) cur0 hI ?_ ?_
  ·exact lq0
  intro j cur h4;have h5:=h4.len;cases j with
  | zero=>
   have h6:=h4.zero hmk;subst h6;repeat' ((conv=>whnf);first|exact kQ|(refine bk ?_ ?_<;>intro _<;>try(exfalso;omega))|refine stq ?_|refine aX.by (id:=4) aA T0 [0,0,3,7,15,15,15,111,239,15,15,1039,3599,7695,16383,32767,65535] (by kernel_rfl) ?_|fail)
   all_goals(conv=>whnf)
   refine⟨i+1,by omega,by omega,?_⟩;exact lq0
  | succ j=>
   have e4:cur.getD (P.length+j) 0=cur[o+(a+j)]'(by omega):=by rw[show P.length+j=o+(a+j) by omega];exact bR _
   have e5:y=cur[o+(a+(j+1))]'(by omega):=by rw[<-h4.here (k:=o+(a+(j+1))) om];exact bR _
   repeat' ((conv=>whnf);first|exact kQ|(refine bk ?_ ?_<;>intro _<;>try(exfalso;omega))|refine stq ?_|refine aX.by (id:=4) aA T0 [0,0,3,7,15,15,15,111,239,15,15,1039,3599,7695,16383,32767,65535] (by kernel_rfl) ?_|refine aX.by (id:=6) aA T0 [0,0,0,0,8,0,0,64,224,480,0,0,3072,7168,16355,32739,65535,131071] (by kernel_rfl) ?_|refine cp (tj hcl hr) ?_|refine cA.at (a+(j+1)) om om ?_|refine cA.at (a+j) om om ?_|refine Get.mapO om ?_|refine Put.oneO (by simp;omega) ?_|fail)
   all_goals(conv=>whnf)
   ·have hlt:aJ cl y<aJ cl (cur.getD (P.length+j) 0):=by rw[e4,e5];exact fX.1 asm
    have h6:=h4.more hlt;rw[show P.length+(j+1)=o+(a+(j+1)) by omega,show P.length+j=o+(a+j) by omega] at h6;refine⟨j,_,h6,by omega,?_⟩;exact lq0
   ·have hlt:¬aJ cl y<aJ cl (cur.getD (P.length+j) 0):=by rw[e4,e5];exact λh=>absurd (fX.2 h) asm
    have h6:=h4.stop hmk hlt;subst h6;refine⟨i+1,by omega,by omega,?_⟩;exact lq0
 ·rw[kE om,List.drop_of_length_le om,List.nil_append];repeat' ((conv=>whnf);first|exact kQ|(refine bk ?_ ?_<;>intro _<;>try(exfalso;omega))|refine stq ?_|fail)
  all_goals(conv=>whnf)
  refine⟨Or.inl rfl,_,rfl,?_⟩;exact lq0
end
section
set_option linter.unusedVariables false
theorem xNX.rdX {p:Prop}(h:p:=by first|exact Rd.same (nbF _)|exact Rd.int em|exact Rd.int (by first|(rw[em];omega;done)|fail)|fail):p:=h
theorem xNX.rbX {p:Prop}(h:p:=by first|exact Rb.cells (Rds.eqs (nr om om) (aN (λ_=>rfl) _)) rfl|fail):p:=h
open xNX
theorem sm1_c {cl:List Spn}(hcl:cl.length<=1000) (hr:lA cl){P B S:List Int}{x:Int}{o n c a m b:Nat}(hl:(P++(x::(B++S))).length<=100000) (hp:P.length=o+a) (hm:m=a+1) (hb:b=m+B.length) (hbn:b<=n) (hon:o+n<=(P++(x::(B++S))).length) (hB:0<B.length) (hmk:Mk (aJ cl) (x::B)) (hu:Up (aJ cl) B) :
  AC1 Tryz.prog 388 [slO o n c,i64 a,i64 m,i64 b,cJ cl] ⟨1,[(0,.cells ((P++(x::(B++S))).map bT) false)]⟩ (.tup []) ⟨4,[(0,.cells ((P++(can (aJ cl) (x::B)++S)).map bT) false)]⟩:=by
 refine AC1.of_vf aA T0 Tryz.func388 rfl rfl ?_
 have gtB:∀ k,k<B.length->(P++(x::(B++S))).getD (o+(m+k)) 0=B.getD k 0:=λk hk=>by
  have:=uu (P:=P) (A:=[x]) (B:=B) (S:=S) (k:=o+(m+k)) (by simp;omega) (by simp;omega)
  rw[show o+(m+k)-(P.length+[x].length)=k by simp;omega] at this;exact this
 have gtx:(P++(x::(B++S))).getD (o+a) 0=x:=by
  have:=uv (P:=P) (A:=[x]) (S:=B++S) (k:=o+a) om (by simp;omega)
  rw[show o+a-P.length=0 by omega] at this;exact this
 have hlen:(P++(x::(B++S))).length=P.length+(1+(B.length+S.length)):=by simp;omega
 have hq0:P++(B.take 0++x::(B.drop 0++S))=P++(x::(B++S)):=by simp
 generalize hL:P++(x::(B++S))=L at *;repeat' ((conv=>whnf);first|exact kQ|(refine bk ?_ ?_<;>intro _<;>try(exfalso;omega))|refine stq ?_|fail)
 refine aH.by2 aA T0 (λi j:Nat=>⟨tmp 220 [(0,slO o n c),(1,i64 a),(2,i64 m),(3,i64 b),(4,cJ cl),(10,i64 ((m+i:Nat):Int)),(11,i64 ((m+j:Nat):Int))],⟨1,[(0,.cells (L.map bT) false)]⟩⟩)
  (λi j=>i<=j∧j<=B.length∧(∀ k,k<i->aJ cl (B.getD k 0)<aJ cl x)∧(∀ k,j<=k->k<B.length->¬aJ cl (B.getD k 0)<aJ cl x)) (λi j=>j-i) 0 B.length ⟨by omega,by omega,λk h=>by omega,λk h h'=>by omega⟩ ?_ ?_
 ·exact lq0
 intro i j ⟨h3,h4,h5,h6⟩;by_cases hij:i<j
 ·have em:=im (i:=m+i) (j:=m+j) (n:=400000) om om;obtain⟨k,hk⟩:∃ k,(i+j) / 2=k:=⟨_,rfl⟩;rw[show(m+i+(m+j)) / 2=m+k by omega] at em;have e1:L[o+(m+k)]'(by omega)=B.getD k 0:=by rw[<-gtB k om];exact(bR _).symm
  have e2:L[o+a]'(by omega)=x:=by rw[<-bR (d:=0) (l:=L) (k:=o+a) om];exact gtx
  repeat' ((conv=>whnf);first|exact kQ|(refine bk ?_ ?_<;>intro _<;>try(exfalso;omega))|refine stq ?_|refine aX.by (id:=5) aA T0 [0,0,0,6,14,0,0,96,224,511,1023] (by kernel_rfl) ?_|refine cp (tj hcl hr) ?_|refine cA.at (m+k) em om ?_|refine cA.at a om om ?_|refine Get.mapO om ?_|refine Chk.mk (fg (by rw[em];omega) (by rw[em];omega)) ?_|fail)
  all_goals(conv=>whnf)
  ·have hlt:aJ cl (B.getD k 0)<aJ cl x:=by rw[<-e1,<-e2];exact fX.1 asm
   refine⟨k+1,j,⟨by omega,h4,λq hq=>?_,h6⟩,by omega,?_⟩
   ·have:=hu.get (i:=q) (j:=k) om om;omega
   exact lq0
  ·have hlt:¬aJ cl (B.getD k 0)<aJ cl x:=by rw[<-e1,<-e2];exact λh=>absurd (fX.2 h) asm
   refine⟨i,k,⟨by omega,by omega,h5,λq hq hq'=>?_⟩,by omega,?_⟩
   ·have:=hu.get (i:=k) (j:=q) om om;omega
   exact lq0
 ·have e:j=i:=by omega
  subst e;have hcut:=Bx hmk hu h4 h5 h6;repeat' ((conv=>whnf);first|exact kQ|(refine bk ?_ ?_<;>intro _<;>try(exfalso;omega))|refine stq ?_|fail)
  refine aH.by2 aA T0 (λ(q:Nat) (cur:List Int)=>⟨tmp 220 [(0,slO o n c),(4,cJ cl),(10,i64 ((m+j:Nat):Int)),(13,i64 ((a+q:Nat):Int))],⟨1,[(0,.cells (cur.map bT) false)]⟩⟩)
   (λq cur=>q<=j∧cur.length=L.length∧cur=P++(B.take q++x::(B.drop q++S))) (λq _=>j-q) 0 L ⟨by omega,rfl,hq0.symm⟩ ?_ ?_
  ·exact lq0
  intro q cur ⟨g1,g2,g3⟩;by_cases hq:q<j
  ·have e1:B.drop q=B[q]::B.drop (q+1):=kK om;have e2:B.take (q+1)=B.take q++[B[q]]:=List.take_succ_eq_append_getElem om
   have e3:eK cur (o+(a+q)) (o+(a+(q+1)))=P++(B.take (q+1)++x::(B.drop (q+1)++S)):=by
    have:=lv (P++B.take q) x B[q] (B.drop (q+1)++S)
    rw[show(P++B.take q).length=o+(a+q) by simp;omega,show o+(a+q)+1=o+(a+(q+1)) by omega] at this;rw[g3,e1,e2];simp only[List.append_assoc,List.cons_append,List.nil_append] at this ⊢;exact this
   repeat' ((conv=>whnf);first|exact kQ|(refine bk ?_ ?_<;>intro _<;>try(exfalso;omega))|refine stq ?_|refine aX.by (id:=11) aA T0 [0,0,0,0,8,0,0,64,224,480,0,0,3072,7168,16355,32739,65535,131071] (by kernel_rfl) ?_|refine cA.at (a+q) om om ?_|refine cA.at (a+(q+1)) om om ?_|refine Get.mapO (k:=a+(q+1)) om ?_|refine Get.mapO om ?_|refine Put.oneO (by simp;omega) ?_|fail)
   all_goals(conv=>whnf)
   refine⟨q+1,eK cur (o+(a+q)) (o+(a+(q+1))),⟨by omega,by simp[g2],e3⟩,by omega,?_⟩;exact lq0
  ·have e:q=j:=by omega
   subst e;rw[show B.take q++x::(B.drop q++S)=can (aJ cl) (x::B)++S by rw[hcut];simp] at g3;subst g3;repeat' ((conv=>whnf);first|exact kQ|(refine bk ?_ ?_<;>intro _<;>try(exfalso;omega))|refine stq ?_|fail)
   all_goals(conv=>whnf)
   refine⟨Or.inr rfl,_,rfl,?_⟩;exact lq0
theorem sm2_c {cl:List Spn}(hcl:cl.length<=1000) (hr:lA cl){P A S:List Int}{y:Int}{o n c a m b:Nat}(hl:(P++(A++(y::S))).length<=100000) (hp:P.length=o+a) (hm:m=a+A.length) (hb:b=m+1) (hbn:b<=n) (hon:o+n<=(P++(A++(y::S))).length) (hA:1<A.length) (hmk:Mk (aJ cl) (A++[y])) (hu:Up (aJ cl) A) :
  AC1 Tryz.prog 388 [slO o n c,i64 a,i64 m,i64 b,cJ cl] ⟨1,[(0,.cells ((P++(A++(y::S))).map bT) false)]⟩ (.tup []) ⟨4,[(0,.cells ((P++(can (aJ cl) (A++[y])++S)).map bT) false)]⟩:=by
 refine AC1.of_vf aA T0 Tryz.func388 rfl rfl ?_
 have gtA:∀ k,k<A.length->(P++(A++(y::S))).getD (o+(a+k)) 0=A.getD k 0:=λk hk=>by
  have:=uv (P:=P) (A:=A) (S:=y::S) (k:=o+(a+k)) om om
  rw[show o+(a+k)-P.length=k by omega] at this;exact this
 have gty:(P++(A++(y::S))).getD (o+m) 0=y:=by
  have:=uu (P:=P) (A:=A) (B:=[y]) (S:=S) (k:=o+m) om (by simp;omega)
  rw[show o+m-(P.length+A.length)=0 by omega] at this;exact this
 have hlen:(P++(A++(y::S))).length=P.length+(A.length+(1+S.length)):=by simp;omega
 have hq0:P++(A.take A.length++y::(A.drop A.length++S))=P++(A++(y::S)):=by simp
 generalize hL:P++(A++(y::S))=L at *;repeat' ((conv=>whnf);first|exact kQ|(refine bk ?_ ?_<;>intro _<;>try(exfalso;omega))|refine stq ?_|fail)
 refine aH.by2 aA T0 (λi j:Nat=>⟨tmp 220 [(0,slO o n c),(1,i64 a),(2,i64 m),(3,i64 b),(4,cJ cl),(14,i64 ((a+i:Nat):Int)),(15,i64 ((a+j:Nat):Int))],⟨1,[(0,.cells (L.map bT) false)]⟩⟩)
  (λi j=>i<=j∧j<=A.length∧(∀ k,k<i->¬aJ cl y<aJ cl (A.getD k 0))∧(∀ k,j<=k->k<A.length->aJ cl y<aJ cl (A.getD k 0))) (λi j=>j-i) 0 A.length ⟨by omega,by omega,λk h=>by omega,λk h h'=>by omega⟩ ?_ ?_
 ·exact lq0
 intro i j ⟨h3,h4,h5,h6⟩;by_cases hij:i<j
 ·have em:=im (i:=a+i) (j:=a+j) (n:=400000) om om;obtain⟨k,hk⟩:∃ k,(i+j) / 2=k:=⟨_,rfl⟩;rw[show(a+i+(a+j)) / 2=a+k by omega] at em;have e1:L[o+(a+k)]'(by omega)=A.getD k 0:=by rw[<-gtA k om];exact(bR _).symm
  have e2:L[o+m]'(by omega)=y:=by rw[<-bR (d:=0) (l:=L) (k:=o+m) om];exact gty
  repeat' ((conv=>whnf);first|exact kQ|(refine bk ?_ ?_<;>intro _<;>try(exfalso;omega))|refine stq ?_|refine aX.by (id:=17) aA T0 [0,0,0,6,14,0,0,96,224,511,1023,2047] (by kernel_rfl) ?_|refine cp (tj hcl hr) ?_|refine cA.at (a+k) em om ?_|refine cA.at m om om ?_|refine Get.mapO om ?_|refine Chk.mk (fg (by rw[em];omega) (by rw[em];omega)) ?_|fail)
  all_goals(conv=>whnf)
  ·have hlt:aJ cl y<aJ cl (A.getD k 0):=by rw[<-e1,<-e2];exact fX.1 asm
   refine⟨i,k,⟨by omega,by omega,h5,λq hq hq'=>?_⟩,by omega,?_⟩
   ·have:=hu.get (i:=k) (j:=q) om om;omega
   exact lq0
  ·have hlt:¬aJ cl y<aJ cl (A.getD k 0):=by rw[<-e1,<-e2];exact λh=>absurd (fX.2 h) asm
   refine⟨k+1,j,⟨by omega,h4,λq hq=>?_,h6⟩,by omega,?_⟩
   ·have:=hu.get (i:=q) (j:=k) om om;omega
   exact lq0
 ·have e:j=i:=by omega
  subst e;have hcut:=Er hmk hu h4 h5 h6;repeat' ((conv=>whnf);first|exact kQ|(refine bk ?_ ?_<;>intro _<;>try(exfalso;omega))|refine stq ?_|fail)
  refine aH.by2 aA T0 (λ(q:Nat) (cur:List Int)=>⟨tmp 220 [(0,slO o n c),(4,cJ cl),(14,i64 ((a+j:Nat):Int)),(17,i64 ((a+q:Nat):Int))],⟨1,[(0,.cells (cur.map bT) false)]⟩⟩)
   (λq cur=>j<=q∧q<=A.length∧cur.length=L.length∧cur=P++(A.take q++y::(A.drop q++S))) (λq _=>q) A.length L ⟨by omega,by omega,rfl,hq0.symm⟩ ?_ ?_
  ·exact lq0
  intro q cur ⟨g0,g1,g2,g3⟩;by_cases hq:j<q
  ·obtain⟨q,rfl⟩:∃ r,q=r+1:=⟨q-1,by omega⟩;have e1:A.drop q=A[q]::A.drop (q+1):=kK om;have e2:A.take (q+1)=A.take q++[A[q]]:=List.take_succ_eq_append_getElem om
   have e3:eK cur (o+(a+(q+1))) (o+(a+q))=P++(A.take q++y::(A.drop q++S)):=by
    have:=lv (P++A.take q) A[q] y (A.drop (q+1)++S)
    rw[show(P++A.take q).length=o+(a+q) by simp;omega,show o+(a+q)+1=o+(a+(q+1)) by omega] at this;rw[qN _ om,g3,e1,e2];simp only[List.append_assoc,List.cons_append,List.nil_append] at this ⊢;exact this
   repeat' ((conv=>whnf);first|exact kQ|(refine bk ?_ ?_<;>intro _<;>try(exfalso;omega))|refine stq ?_|refine aX.by (id:=23) aA T0 [0,0,0,0,8,0,0,64,224,480,0,0,3072,7168,16355,32739,65535,131071] (by kernel_rfl) ?_|refine cA.at (a+(q+1)) om om ?_|refine cA.at (a+q) om om ?_|refine Get.mapO om ?_|refine Put.oneO (by simp;omega) ?_|fail)
   all_goals(conv=>whnf)
   refine⟨q,eK cur (o+(a+(q+1))) (o+(a+q)),⟨by omega,by omega,by simp[g2],e3⟩,by omega,?_⟩;exact lq0
  ·have e:q=j:=by omega
   subst e;rw[show A.take q++y::(A.drop q++S)=can (aJ cl) (A++[y])++S by rw[hcut];simp] at g3;subst g3;repeat' ((conv=>whnf);first|exact kQ|(refine bk ?_ ?_<;>intro _<;>try(exfalso;omega))|refine stq ?_|fail)
   all_goals(conv=>whnf)
   refine⟨Or.inr rfl,_,rfl,?_⟩;exact lq0
end
section
set_option linter.unusedVariables false
theorem xNY.rdX {p:Prop}(h:p:=by first|exact Rd.same (nbF _)|exact Rd.int em|exact Rd.int em2|exact Rd.int (by first|(rw[em2];omega;done)|fail)|fail):p:=h
theorem xNY.rbX {p:Prop}(h:p:=by first|exact Rb.cells (Rds.eqs (by first|(rw[List.append_assoc];done)|fail) (aN (λ_=>rfl) _)) rfl|fail):p:=h
open xNY
structure Lat (p:Prop):Prop where
 out:p
theorem later {p q:Prop}(h:p) (k:Lat p->q):q:=k ⟨h⟩
theorem sm3_c {cl:List Spn}(hcl:cl.length<=1000) (hr:lA cl){P A B S:List Int}{o n c a m b:Nat}(hl:(P++(A++(B++S))).length<=100000) (hp:P.length=o+a) (hm:m=a+A.length) (hb:b=m+B.length) (hbn:b<=n) (hon:o+n<=(P++(A++(B++S))).length) (hA:1<A.length) (hB:1<B.length)
  (hmk:Mk (aJ cl) (A++B)) (huA:Up (aJ cl) A) (huB:Up (aJ cl) B)
  (ih:∀ (P A' B' S:List Int) (a m b:Nat),A'.length+B'.length<A.length+B.length->(P++(A' ++ (B' ++ S))).length<=100000->P.length=o+a->m=a+A'.length->b=m+B'.length->b<=n->o+n<=(P++(A' ++ (B' ++ S))).length->0<A'.length->0<B'.length->Mk (aJ cl) (A' ++ B')->Up (aJ cl) A'->Up (aJ cl) B' ->
   AC1 Tryz.prog 388 [slO o n c,i64 a,i64 m,i64 b,cJ cl] ⟨1,[(0,.cells ((P++(A' ++ (B' ++ S))).map bT) false)]⟩ (.tup []) ⟨4,[(0,.cells ((P++(can (aJ cl) (A' ++ B')++S)).map bT) false)]⟩) :
  AC1 Tryz.prog 388 [slO o n c,i64 a,i64 m,i64 b,cJ cl] ⟨1,[(0,.cells ((P++(A++(B++S))).map bT) false)]⟩ (.tup []) ⟨4,[(0,.cells ((P++(can (aJ cl) (A++B)++S)).map bT) false)]⟩:=by
 refine AC1.of_vf aA T0 Tryz.func388 rfl rfl ?_
 have gtA:∀ k,k<A.length->(P++(A++(B++S))).getD (o+(a+k)) 0=A.getD k 0:=λk hk=>by
  have:=uv (P:=P) (A:=A) (S:=B++S) (k:=o+(a+k)) om om
  rw[show o+(a+k)-P.length=k by omega] at this;exact this
 have gtB:∀ k,k<B.length->(P++(A++(B++S))).getD (o+(m+k)) 0=B.getD k 0:=λk hk=>by
  have:=uu (P:=P) (A:=A) (B:=B) (S:=S) (k:=o+(m+k)) om om
  rw[show o+(m+k)-(P.length+A.length)=k by omega] at this;exact this
 have hlen:(P++(A++(B++S))).length=P.length+(A.length+(B.length+S.length)):=by simp
 generalize hL:P++(A++(B++S))=L at *;have em:=im (i:=a) (j:=b) (n:=400000) om om;obtain⟨md,hmd⟩:∃ md,(a+b) / 2=md:=⟨_,rfl⟩
 obtain⟨s0,r0,hw⟩:∃ s0 r0,(md<m∧s0+b=md+m∧r0=md)∨(m<=md∧s0=a∧r0=m):=by
  by_cases h:md<m
  ·exact⟨md+m-b,md,.inl ⟨h,by omega,rfl⟩⟩
  ·exact⟨a,m,.inr ⟨by omega,rfl,rfl⟩⟩
 rw[hmd] at em;apply later
 case k=>
  intro key;repeat' ((conv=>whnf);first|refine cm.weak (x:=Code.seq (Code.region 32 _ false) _) aA T0 (s0:=⟨tmp 220 [(0,slO o n c),(1,i64 a),(2,i64 m),(3,i64 b),(4,cJ cl),(18,i64 (md:Int)),(19,i64 ((md+m:Nat):Int)),(20,i64 (s0:Int)),(21,i64 (r0:Int))],⟨1,[(0,.cells (L.map bT) false)]⟩⟩) ?_ key.out|refine cm.weak (x:=Code.seq (Code.region 25 _ false) _) aA T0 (s0:=⟨tmp 220 [(0,slO o n c),(1,i64 a),(2,i64 m),(3,i64 b),(4,cJ cl),(18,i64 (md:Int))],⟨1,[(0,.cells (L.map bT) false)]⟩⟩) ?_ ?_|exact kQ|(refine bk ?_ ?_<;>intro _<;>try(exfalso;omega))|refine stq ?_|fail)
  all_goals
   exact lq0
 repeat' ((conv=>whnf);first|exact kQ|(refine bk ?_ ?_<;>intro _<;>try(exfalso;omega))|refine stq ?_|fail)
 refine aH.by2 aA T0 (λi j:Nat=>⟨tmp 220 [(0,slO o n c),(1,i64 a),(2,i64 m),(3,i64 b),(4,cJ cl),(18,i64 (md:Int)),(19,i64 ((md+m:Nat):Int)),(20,i64 (i:Int)),(21,i64 (j:Int)),(22,i64 ((md+m-1:Nat):Int))],⟨1,[(0,.cells (L.map bT) false)]⟩⟩)
  (λi j=>SmI (aJ cl) A B a m b s0 r0 i j) (λi j=>j-i) s0 r0 ⟨by omega,λk h=>by omega,λk h h'=>by omega⟩ ?_ ?_
 ·exact lq0
 intro i j hI;have hle:=hI.le;by_cases hij:i<j
 ·have em2:=im (i:=i) (j:=j) (n:=400000) om om;obtain⟨k,hk⟩:∃ k,(i+j) / 2=k:=⟨_,rfl⟩;rw[hk] at em2
  have e1:L[o+(md+m-1-k)]'(by omega)=B.getD ((a+b) / 2-1-k) 0:=by
   rw[<-gtB ((a+b) / 2-1-k) om,show o+(m+((a+b) / 2-1-k))=o+(md+m-1-k) by omega];exact(bR _).symm
  have e2:L[o+k]'(by omega)=A.getD (k-a) 0:=by
   rw[<-gtA (k-a) om,show o+(a+(k-a))=o+k by omega];exact(bR _).symm
  repeat' ((conv=>whnf);first|exact kQ|(refine bk ?_ ?_<;>intro _<;>try(exfalso;omega))|refine stq ?_|refine aX.by (id:=35) aA T0 [0,0,0,0,12,30,62,0,0,384,896,2047,4095,8191] (by kernel_rfl) ?_|refine cp (tj hcl hr) ?_|refine cA.at k em2 om ?_|refine cA.at (md+m-1-k) (by rw[em2];omega) om ?_|refine Get.mapO om ?_|refine Chk.mk (fg (by rw[em2];omega) (by rw[em2];omega)) ?_|fail)
  all_goals(conv=>whnf)
  ·have hlt:aJ cl (B.getD ((a+b) / 2-1-k) 0)<aJ cl (A.getD (k-a) 0):=by rw[<-e1,<-e2];exact fX.1 asm
   refine⟨i,k,hI.down huA huB hm.symm hb.symm om om om om hlt,by omega,?_⟩;exact lq0
  ·have hlt:¬aJ cl (B.getD ((a+b) / 2-1-k) 0)<aJ cl (A.getD (k-a) 0):=by rw[<-e1,<-e2];exact λh=>absurd (fX.2 h) asm
   refine⟨k+1,j,hI.up huA huB hm.symm hb.symm om om om om hlt,by omega,?_⟩;exact lq0
 have e:j=i:=by omega
 subst e;have hcut:=hI.cut hmk huA huB hm.symm hb.symm om;rw[hmd] at hcut;have hsA:j-a<=A.length:=by omega
 have hsB:md-j<=B.length:=by omega
 have hLU:L=P++(A.take (j-a)++(A.drop (j-a)++(B.take (md-j)++(B.drop (md-j)++S)))):=by
  rw[<-hL,<-List.append_assoc (B.take _),List.take_append_drop,<-List.append_assoc (A.take _),List.take_append_drop]
 have huU:=huA.sub 0 (j-a);have huX:Up (aJ cl) (A.drop (j-a)):=List.Pairwise.sublist (List.drop_sublist _ _) huA;have huY:=huB.sub 0 (md-j);have huV:Up (aJ cl) (B.drop (md-j)):=List.Pairwise.sublist (List.drop_sublist _ _) huB;rw[List.drop_zero] at huU huY;have hkU:Mk (aJ cl) (A.take (j-a)):=λz hz=>hmk z (List.mem_append_left _ (List.mem_of_mem_take hz))
 have hkX:Mk (aJ cl) (A.drop (j-a)):=λz hz=>hmk z (List.mem_append_left _ (List.mem_of_mem_drop hz))
 have hkY:Mk (aJ cl) (B.take (md-j)):=λz hz=>hmk z (List.mem_append_right _ (List.mem_of_mem_take hz))
 have hkV:Mk (aJ cl) (B.drop (md-j)):=λz hz=>hmk z (List.mem_append_right _ (List.mem_of_mem_drop hz))
 have hlU:(A.take (j-a)).length=j-a:=by simp;omega
 have hlX:(A.drop (j-a)).length=A.length-(j-a):=by simp
 have hlY:(B.take (md-j)).length=md-j:=by simp;omega
 have hlV:(B.drop (md-j)).length=B.length-(md-j):=by simp
 clear hI gtA gtB huA huB hmk;generalize A.take (j-a)=U at *;generalize A.drop (j-a)=X at *;generalize B.take (md-j)=Y at *;generalize B.drop (md-j)=V at *;rw[hcut,hLU];have hlL:L.length=P.length+(U.length+(X.length+(Y.length+(V.length+S.length)))):=by rw[hLU];simp
 clear hLU hcut hL;apply later
 case k=>
  intro key;repeat' ((conv=>whnf);first|refine cm.weak (x:=Code.seq (Code.seq (Code.region 39 _ false) _) _) aA T0 (s0:=⟨tmp 220 [(0,slO o n c),(1,i64 a),(2,i64 m),(3,i64 b),(4,cJ cl),(18,i64 (md:Int)),(20,i64 (j:Int)),(24,i64 ((md+m-j:Nat):Int))],⟨1,[(0,.cells ((P++(U++(X++(Y++(V++S))))).map bT) false)]⟩⟩) ?_ key.out|exact kQ|(refine bk ?_ ?_<;>intro _<;>try(exfalso;omega))|refine stq ?_|fail)
  exact lq0
 apply later
 case k=>
  intro key;by_cases hx:j<m∧m<md+m-j
  ·have hb:=rot_c (cl:=cl) (P:=P++U) (X:=X) (Y:=Y) (S:=V++S) (o:=o) (n:=n) (c:=c) (a:=j) (m:=m) (b:=md+m-j) (by simp;omega) om om (by simp;omega) om om om (by simp;omega);simp only[List.append_assoc] at hb;repeat' ((conv=>whnf);first|refine cm.weak (x:=Code.seq (Code.seq (Code.region 41 _ false) _) _) aA T0 (s0:=⟨tmp 220 [(0,slO o n c),(1,i64 a),(2,i64 m),(3,i64 b),(4,cJ cl),(18,i64 (md:Int)),(20,i64 (j:Int)),(24,i64 ((md+m-j:Nat):Int))],⟨1,[(0,.cells ((P++(U++(Y++(X++(V++S))))).map bT) false)]⟩⟩) ?_ key.out|exact kQ|(refine bk ?_ ?_<;>intro _<;>try(exfalso;omega))|refine stq ?_|refine Cll.emb hb [(0,0)] [] (.tup []) [(0,.cells ((P++(U++(Y++(X++(V++S))))).map bT) false)] [] rfl cZ bxA rdA bxA reA ?_|fail)
   all_goals
    exact lq0
  ·have he:X++(Y++(V++S))=Y++(X++(V++S)):=by
    rcases(by omega:X.length=0∨Y.length=0) with h|h
    ·rw[List.length_eq_zero_iff.1 h];rfl
    ·rw[List.length_eq_zero_iff.1 h];rfl
   rw[he];repeat' ((conv=>whnf);first|refine cm.weak (x:=Code.seq (Code.seq (Code.region 41 _ false) _) _) aA T0 (s0:=⟨tmp 220 [(0,slO o n c),(1,i64 a),(2,i64 m),(3,i64 b),(4,cJ cl),(18,i64 (md:Int)),(20,i64 (j:Int)),(24,i64 ((md+m-j:Nat):Int))],⟨1,[(0,.cells ((P++(U++(Y++(X++(V++S))))).map bT) false)]⟩⟩) ?_ key.out|exact kQ|(refine bk ?_ ?_<;>intro _<;>try(exfalso;omega))|refine stq ?_|fail)
   all_goals
    exact lq0
 apply later
 case k=>
  intro key;by_cases hx:a<j∧j<md
  ·have hb:=ih P U Y (X++(V++S)) a j md om (by simp;omega) hp om om om (by simp;omega) om om (λz hz=>(List.mem_append.1 hz).elim (hkU z) (hkY z)) huU huY;repeat' ((conv=>whnf);first|refine cm.weak (x:=Code.seq (Code.region 43 _ false) _) aA T0 (s0:=⟨tmp 220 [(0,slO o n c),(1,i64 a),(2,i64 m),(3,i64 b),(4,cJ cl),(18,i64 (md:Int)),(20,i64 (j:Int)),(24,i64 ((md+m-j:Nat):Int))],⟨1,[(0,.cells ((P++(can (aJ cl) (U++Y)++(X++(V++S)))).map bT) false)]⟩⟩) ?_ key.out|exact kQ|(refine bk ?_ ?_<;>intro _<;>try(exfalso;omega))|refine stq ?_|refine Cll.emb hb [(0,0)] [] (.tup []) [(0,.cells ((P++(can (aJ cl) (U++Y)++(X++(V++S)))).map bT) false)] [] rfl cZ bxA rdA bxA reA ?_|fail)
   all_goals
    exact lq0
  ·have he:U++(Y++(X++(V++S)))=can (aJ cl) (U++Y)++(X++(V++S)):=by
    rcases(by omega:U.length=0∨Y.length=0) with h|h
    ·rw[List.length_eq_zero_iff.1 h,List.nil_append,List.nil_append,huY.same]
    ·rw[List.length_eq_zero_iff.1 h,List.append_nil,List.nil_append,huU.same]
   rw[he];repeat' ((conv=>whnf);first|refine cm.weak (x:=Code.seq (Code.region 43 _ false) _) aA T0 (s0:=⟨tmp 220 [(0,slO o n c),(1,i64 a),(2,i64 m),(3,i64 b),(4,cJ cl),(18,i64 (md:Int)),(20,i64 (j:Int)),(24,i64 ((md+m-j:Nat):Int))],⟨1,[(0,.cells ((P++(can (aJ cl) (U++Y)++(X++(V++S)))).map bT) false)]⟩⟩) ?_ key.out|exact kQ|(refine bk ?_ ?_<;>intro _<;>try(exfalso;omega))|refine stq ?_|fail)
   all_goals
    exact lq0
 have hlc:(can (aJ cl) (U++Y)).length=U.length+Y.length:=by rw[(cj _).length_eq];simp
 generalize can (aJ cl) (U++Y)=W at *;by_cases hx:md<md+m-j∧md+m-j<b
 ·have hb:=ih (P++W) X V S md (md+m-j) b om (by simp;omega) (by simp;omega) om om om (by simp;omega) om om (λz hz=>(List.mem_append.1 hz).elim (hkX z) (hkV z)) huX huV;simp only[List.append_assoc] at hb;repeat' ((conv=>whnf);first|exact kQ|(refine bk ?_ ?_<;>intro _<;>try(exfalso;omega))|refine stq ?_|refine Cll.emb hb [(0,0)] [] (.tup []) [(0,.cells ((P++(W++(can (aJ cl) (X++V)++S))).map bT) false)] [] rfl cZ bxA rdA bxA reA ?_|fail)
  all_goals(conv=>whnf)
  all_goals
   refine⟨Or.inl rfl,_,rfl,?_⟩;exact lq0
 ·have he:X++(V++S)=can (aJ cl) (X++V)++S:=by
   rcases(by omega:X.length=0∨V.length=0) with h|h
   ·rw[List.length_eq_zero_iff.1 h,List.nil_append,List.nil_append,huV.same]
   ·rw[List.length_eq_zero_iff.1 h,List.append_nil,List.nil_append,huX.same]
  rw[he];repeat' ((conv=>whnf);first|exact kQ|(refine bk ?_ ?_<;>intro _<;>try(exfalso;omega))|refine stq ?_|fail)
  all_goals(conv=>whnf)
  all_goals
   refine⟨Or.inl rfl,_,rfl,?_⟩;exact lq0
end
section
set_option linter.unusedVariables false
theorem xNZ.rdX {p:Prop}(h:p:=by first|exact Rd.same (nbF _)|exact Rd.int (by first|(rw[w1];simp;done)|fail)|exact Rd.int (by first|(rw[w1];omega;done)|fail)|exact Rd.int (by first|(rw[w2];done)|fail)|fail):p:=h
open xNZ
theorem sm_c {cl:List Spn}(hcl:cl.length<=1000) (hr:lA cl){o n c:Nat}:∀ (f:Nat) (P A B S:List Int) (a m b:Nat),A.length+B.length<f->(P++(A++(B++S))).length<=100000->P.length=o+a->m=a+A.length->b=m+B.length->b<=n->o+n<=(P++(A++(B++S))).length->0<A.length->0<B.length->Mk (aJ cl) (A++B)->Up (aJ cl) A->Up (aJ cl) B ->
  AC1 Tryz.prog 388 [slO o n c,i64 a,i64 m,i64 b,cJ cl] ⟨1,[(0,.cells ((P++(A++(B++S))).map bT) false)]⟩ (.tup []) ⟨4,[(0,.cells ((P++(can (aJ cl) (A++B)++S)).map bT) false)]⟩
 | 0,_,_,_,_,_,_,_,h,_,_,_,_,_,_,_,_,_,_,_=>absurd h (Nat.not_lt_zero _)
 | f+1,P,A,B,S,a,m,b,hf,hl,hp,hm,hb,hbn,hon,hA,hB,hmk,huA,huB=>by
  by_cases h1:A.length=1
  ·obtain⟨x,rfl⟩:=List.length_eq_one_iff.1 h1;exact sm1_c (P:=P) (B:=B) (S:=S) (x:=x) hcl hr hl hp hm hb hbn hon hB hmk huB
  ·by_cases h2:B.length=1
   ·obtain⟨y,rfl⟩:=List.length_eq_one_iff.1 h2;exact sm2_c (P:=P) (A:=A) (S:=S) (y:=y) hcl hr hl hp hm hb hbn hon om hmk huA
   ·exact sm3_c hcl hr hl hp hm hb hbn hon om om hmk huA huB λP' A' B' S' a' m' b' hlt=>sm_c hcl hr f P' A' B' S' a' m' b' om
theorem Sw.keep {cls:Int->Int}{a b:List Int}(h:Sw cls a b) (hm:Mk cls a):b.length=a.length∧Mk cls b∧can cls b=can cls a:=⟨h.perm.length_eq.symm,λx hx=>hm x (h.perm.mem_iff.2 hx),h.same.symm⟩
theorem C3 {cl:List Spn}(hcl:cl.length<=1000) (hr:lA cl){P G S:List Int}{o n c:Nat}(hl:(P++(G++S)).length<=100000) (hp:P.length=o) (hn:G.length=n) (hmk:Mk (aJ cl) G) :
  AC1 Tryz.prog 346 [slO o n c,i64 n,cJ cl] ⟨1,[(0,.cells ((P++(G++S)).map bT) false)]⟩ (.tup []) ⟨4,[(0,.cells ((P++(can (aJ cl) G++S)).map bT) false)]⟩:=by
 refine AC1.of_vf aA T0 Tryz.func346 rfl rfl ?_;have hlen:P.length+(G.length+S.length)<=100000:=by simpa using hl
 repeat' ((conv=>whnf);first|exact kQ|(refine bk ?_ ?_<;>intro _<;>try(exfalso;omega))|refine stq ?_|fail)
 refine aH.by2 aA T0 (λ(D R:List Int)=>⟨tmp 63 [(0,slO o n c),(1,i64 n),(2,cJ cl),(6,i64 20),(7,i64 (D.length:Int)),(8,i64 ((D.length+20:Nat):Int))],⟨1,[(0,.cells ((P++((D++R)++S)).map bT) false)]⟩⟩)
  (λD R=>Bf (aJ cl) 20 D∧Sw (aJ cl) G (D++R)) (λ_ R=>R.length) [] G ⟨.nil,.refl _⟩ ?_ ?_
 ·exact lq0
 intro D R ⟨h1,h2⟩;obtain⟨h3,h4,h5⟩:=h2.keep hmk;rw[kG] at h3;by_cases hk:20<=R.length
 ·obtain⟨A,R',rfl,hA⟩:∃ A R',R=A++R'∧A.length=20:=⟨R.take 20,R.drop 20,(List.take_append_drop _ _).symm,by simp;omega⟩;rw[kG] at h3 hk;have hkA:Mk (aJ cl) A:=h4.right.left;have hcA:(can (aJ cl) A).length=20:=by rw[(cj _).length_eq,hA]
  have hb:=HS hcl hr (P:=P++D) (A:=A) (S:=R' ++ S) (o:=o) (n:=n) (c:=c) (a:=D.length) (b:=D.length+20) (by simp;omega) (by simp;omega) om om (by simp;omega) hkA;rw[show P++D++(A++(R' ++ S))=P++((D++(A++R'))++S) by simp,show P++D++(can (aJ cl) A++(R' ++ S))=P++(((D++can (aJ cl) A)++R')++S) by simp] at hb
  have h6:Sw (aJ cl) G ((D++can (aJ cl) A)++R'):=by
   have:=(fu (cls:=aJ cl) A).mid D R'
   exact h2.trans (by simpa using this)
  repeat' ((conv=>whnf);first|exact kQ|(refine bk ?_ ?_<;>intro _<;>try(exfalso;omega))|refine stq ?_|refine Cll.emb hb [(0,0)] [] (.tup []) [(0,.cells ((P++(((D++can (aJ cl) A)++R')++S)).map bT) false)] [] rfl cZ bxA rdA bxA reA ?_|fail)
  all_goals(conv=>whnf)
  refine⟨D++can (aJ cl) A,R',⟨h1.snoc hcA (kv hkA),h6⟩,by simp;omega,?_⟩;have hd:(D++can (aJ cl) A).length=D.length+20:=by rw[kG,hcA]
  rw[hd];exact lq0
 have hkR:Mk (aJ cl) R:=h4.right;have hb:=HS hcl hr (P:=P++D) (A:=R) (S:=S) (o:=o) (n:=n) (c:=c) (a:=D.length) (b:=n) (by simp;omega) (by simp;omega) om om (by simp;omega) hkR;rw[show P++D++(R++S)=P++((D++R)++S) by simp,show P++D++(can (aJ cl) R++S)=P++((D++can (aJ cl) R)++S) by simp] at hb;have hcR:(can (aJ cl) R).length=R.length:=(cj _).length_eq;have h6:Sw (aJ cl) G (D++can (aJ cl) R):=h2.trans (Sw.app (.refl _) (fu _));have h7:Bk (aJ cl) 20 (D++can (aJ cl) R):=h1.app (.last om (kv hkR));generalize D++can (aJ cl) R=G1 at *;generalize D++R=G0 at *;clear h1 h2 h4 h5 hkR;repeat' ((conv=>whnf);first|exact kQ|(refine bk ?_ ?_<;>intro _<;>try(exfalso;omega))|refine stq ?_|refine Cll.emb hb [(0,0)] [] (.tup []) [(0,.cells ((P++(G1++S)).map bT) false)] [] rfl cZ bxA rdA bxA reA ?_|fail)
 clear hb
 refine aH.by2 aA T0 (λ(z:Nat) (C:List Int)=>⟨tmp 63 [(0,slO o n c),(1,i64 n),(2,cJ cl),(6,i64 (z:Int))],⟨1,[(0,.cells ((P++(C++S)).map bT) false)]⟩⟩)
  (λz C=>(0<z∧z<=200020)∧Bk (aJ cl) z C∧Sw (aJ cl) G C) (λz _=>n-z) 20 G1 ⟨by omega,h7,h6⟩ ?_ ?_
 ·exact lq0
 clear h6 h7 h3 hk hcR;intro z C ⟨hz,h1,h2⟩;have w1:IntKind.i64.wrap (2*(z:Int))=((z+z:Nat):Int):=by simp[IntKind.wrap,IntKind.bits,IntKind.signed];omega
 have w2:IntKind.i64.wrap ((z:Int)*2)=((z+z:Nat):Int):=by simp[IntKind.wrap,IntKind.bits,IntKind.signed];omega
 obtain⟨h3,h4,h5⟩:=h2.keep hmk;by_cases hzn:z<n
 ·repeat' ((conv=>whnf);first|exact kQ|(refine bk ?_ ?_<;>intro _<;>try(exfalso;omega))|refine stq ?_|fail)
  refine aH.by2 aA T0 (λ(D R:List Int)=>⟨tmp 63 [(0,slO o n c),(1,i64 n),(2,cJ cl),(6,i64 (z:Int)),(7,i64 (D.length:Int)),(8,i64 ((D.length+(z+z):Nat):Int))],⟨1,[(0,.cells ((P++((D++R)++S)).map bT) false)]⟩⟩)
   (λD R=>Bf (aJ cl) (z+z) D∧Bk (aJ cl) z R∧Sw (aJ cl) G (D++R)) (λ_ R=>R.length) [] C ⟨.nil,h1,h2⟩ ?_ ?_
  ·exact lq0
  clear h1 h2 h3 h4 h5;intro D R ⟨h1,h1b,h2⟩;obtain⟨h3,h4,h5⟩:=h2.keep hmk;rw[kG] at h3;by_cases hk:z+z<=R.length
  ·obtain⟨A,B,R',rfl,hA,hB,huA,huB,hR'⟩:=h1b.two om hk;simp only[kG] at h3 hk;have hkA:Mk (aJ cl) (A++B):=λx hx=>h4 x (by simp only[List.mem_append] at hx ⊢;rcases hx with hx|hx<;>simp[hx])
   have hcA:(can (aJ cl) (A++B)).length=z+z:=by rw[(cj _).length_eq,kG];omega
   have hb:=sm_c hcl hr (o:=o) (n:=n) (c:=c) (A.length+B.length+1) (P++D) A B (R' ++ S) D.length (D.length+z) (D.length+(z+z)) om (by simp;omega) (by simp;omega) om om om (by simp;omega) om om hkA huA huB;rw[show P++D++(A++(B++(R' ++ S)))=P++((D++(A++(B++R')))++S) by simp,show P++D++(can (aJ cl) (A++B)++(R' ++ S))=P++(((D++can (aJ cl) (A++B))++R')++S) by simp] at hb
   have h6:Sw (aJ cl) G ((D++can (aJ cl) (A++B))++R'):=by
    have:=(fu (cls:=aJ cl) (A++B)).mid D R'
    exact h2.trans (by simpa using this)
   repeat' ((conv=>whnf);first|exact kQ|(refine bk ?_ ?_<;>intro _<;>try(exfalso;omega))|refine stq ?_|refine Cll.emb hb [(0,0)] [] (.tup []) [(0,.cells ((P++(((D++can (aJ cl) (A++B))++R')++S)).map bT) false)] [] rfl cZ bxA rdA bxA reA ?_|refine Chk.mk (fg (by rw[w1];omega) (by rw[w1];omega)) ?_|fail)
   all_goals(conv=>whnf)
   refine⟨D++can (aJ cl) (A++B),R',⟨h1.snoc hcA (kv hkA),hR',h6⟩,by simp;omega,?_⟩;have hd:(D++can (aJ cl) (A++B)).length=D.length+(z+z):=by rw[kG,hcA]
   rw[hd];exact lq0
  ·by_cases hk2:z<R.length
   ·obtain⟨A,B,rfl,hA,hB,huA,huB⟩:=h1b.one hk2 om;simp only[kG] at h3 hk hk2;have hkA:Mk (aJ cl) (A++B):=h4.right;have hcA:(can (aJ cl) (A++B)).length=A.length+B.length:=by rw[(cj _).length_eq,kG]
    have hb:=sm_c hcl hr (o:=o) (n:=n) (c:=c) (A.length+B.length+1) (P++D) A B S D.length (D.length+z) n om (by simp;omega) (by simp;omega) om om om (by simp;omega) om om hkA huA huB;rw[show P++D++(A++(B++S))=P++((D++(A++B))++S) by simp,show P++D++(can (aJ cl) (A++B)++S)=P++((D++can (aJ cl) (A++B))++S) by simp] at hb;have h6:Sw (aJ cl) G (D++can (aJ cl) (A++B)):=h2.trans (Sw.app (.refl _) (fu _));have h7:Bk (aJ cl) (z+z) (D++can (aJ cl) (A++B)):=h1.app (.last om (kv hkA));repeat' ((conv=>whnf);first|exact kQ|(refine bk ?_ ?_<;>intro _<;>try(exfalso;omega))|refine stq ?_|refine Cll.emb hb [(0,0)] [] (.tup []) [(0,.cells ((P++((D++can (aJ cl) (A++B))++S)).map bT) false)] [] rfl cZ bxA rdA bxA reA ?_|fail)
    all_goals(conv=>whnf)
    refine⟨z+z,D++can (aJ cl) (A++B),⟨by omega,h7,h6⟩,by omega,?_⟩;exact lq0
   ·have h7:Bk (aJ cl) (z+z) (D++R):=h1.app (.last om (h1b.up om));repeat' ((conv=>whnf);first|exact kQ|(refine bk ?_ ?_<;>intro _<;>try(exfalso;omega))|refine stq ?_|fail)
    all_goals(conv=>whnf)
    refine⟨z+z,D++R,⟨by omega,h7,h2⟩,by omega,?_⟩;exact lq0
 ·have hu:=h1.up om;rw[hu.same] at h5;repeat' ((conv=>whnf);first|exact kQ|(refine bk ?_ ?_<;>intro _<;>try(exfalso;omega))|refine stq ?_|fail)
  all_goals(conv=>whnf)
  refine⟨Or.inl rfl,_,rfl,?_⟩;rw[<-h5];exact lq0
theorem E4 {cl:List Spn}(hcl:cl.length<=1000) (hr:lA cl){P G S:List Int}{o n c:Nat}(hl:(P++(G++S)).length<=100000) (hp:P.length=o) (hn:G.length=n) (hmk:Mk (aJ cl) G) :
  AC1 Tryz.prog 273 [slO o n c,cJ cl] ⟨1,[(0,.cells ((P++(G++S)).map bT) false)]⟩ (.tup []) ⟨4,[(0,.cells ((P++(can (aJ cl) G++S)).map bT) false)]⟩:=by
 refine AC1.of_vf aA T0 Tryz.func273 rfl rfl ?_;have hb:=C3 hcl hr (c:=c) hl hp hn hmk;repeat' ((conv=>whnf);first|exact kQ|(refine bk ?_ ?_<;>intro _<;>try(exfalso;omega))|refine stq ?_|refine Cll.emb hb [(0,0)] [] (.tup []) [(0,.cells ((P++(can (aJ cl) G++S)).map bT) false)] [] rfl cZ bxA rdA bxA reA ?_|fail)
 all_goals(conv=>whnf)
 refine⟨Or.inl rfl,_,rfl,?_⟩;exact lq0
end
end Go.Proofs.YtihggclfifimoaaGreatDoor
