/-
  The specification of layer 33, over data: classes, boundaries and ranges by the rules are the program's.
-/
import Derived.Test.YtbmdndckndnehaaGreatDoorL6
import Derived.Test.YtbmdndckndnehaaGreatDoorV0
import Derived.Test.YtbmdndckndnehaaGreatDoorX1
set_option linter.unusedSectionVars false
namespace Go.Proofs.YtbmdndckndnehaaGreatDoor
section
open Go Go.Am Classical
set_option maxRecDepth 100000
theorem xLA.rdX {p:Prop}(h:p:=by first|exact Rd.nil|exact eT (b:=x::xs) rfl rfl (aO _) rfl|exact Rd.sl' rfl sim sim|fail):p:=h
theorem xLA.rbX {p:Prop}(h:p:=by first|exact Rb.cells (Rds.same (uK _ _)) rfl|exact Rb.cells (Rds.same (cR _)) rfl|exact Rb.cells (Rds.eqs (af (by intro _;rfl) (x::xs) _) (aF (by intro _;rfl) _)) rfl|exact Rb.cells (Rds.eqs (af (by intro _;rfl) (y::ys) _) (aF (by intro _;rfl) _)) rfl|fail):p:=h
open xLA
theorem kj (cl:List Str) (rs:List Rul):aN (.agg [strs cl,lstS cF rs])=true:=by
 letI:=gtR;simp[aN,aE,aP,eD]
section
variable [GT]
end
theorem Ek {g:FuncId}{ds:List D}{d:D}(hn:aE ds=true) (h:fx gtR Tryz.prog (fD Tryz.prog) spC 1000 (.fn g) ds .emp 0 (λd1 h1 _=>ek h1 100000 d1 d)=true):@Pu gtR Tryz.prog g ds d:=by
 letI:=gtR;exact Pu.of_t aB T0 iO hn h
structure RK (k:Nat) (cl:List Str) (rs:List Rul) (t:Tbl):Prop where
 kind:k=1∨k=2∨k=3∨k=4
 rcls:@Pu gtR Tryz.prog 70 [i64 (k:Int)] (strs cl)
 rpa:@Pu gtR Tryz.prog 40 [i64 (k:Int)] (.agg [strs cl,lstS cF rs])
 cls:t.classes=cl
 len:cl.length<=100
 tv:TV t
 dec:∀ {l:List Int},CL l cl.length->l.length<=1000->∀ j:Nat,j<=l.length->∃ i:Int,@Pu gtR Tryz.prog 42 [.agg [strs cl,lstS cF rs],aD l,i64 (j:Int)] (.tup [i64 ((acts t l).getD j 0),i64 i])
theorem Et {d:Db}{k:Int}(ho:d.ok) (hs:SmD d) (hv:DbV d) (hk:1<=k∧k<=4):@Pu gtR Tryz.prog 39 [dbD d,i64 k] (i64 0):=by
  letI:=gtR;obtain⟨e,he,hi⟩:=gX ho hs;obtain rfl:=hi.2 hv;refine pv Tryz.func39 ?_;repeat' ((conv=>whnf);first|exact kQ|(refine bk ?_ ?_<;>intro _<;>try(exfalso;omega))|refine stq ?_|refine cp he ?_|fail)
  all_goals(conv=>whnf)
  all_goals exact aC.same rfl rfl
theorem El {d:Db}{k:Nat}(hk:k=1∨k=2∨k=3∨k=4):@Pu gtR Tryz.prog 73 [dbD d,i64 (k:Int)] (bn (prop d (k+2))):=by
 letI:=gtR;have hn:=ld (prop d (k+2));rcases hk with rfl|rfl|rfl|rfl
 all_goals
  refine pv Tryz.func73 ?_;repeat' ((conv=>whnf);first|exact kQ|(refine bk ?_ ?_<;>intro _<;>try(exfalso;omega))|refine stq ?_)
  all_goals(conv=>whnf)
  exact⟨Rd.eqd rfl hn⟩
theorem Hj {d:Db}{k:Nat}{cl:List Str}{rs:List Rul}{t:Tbl}{c:Int}(R:RK k cl rs t) (ho:d.ok):@Pu gtR Tryz.prog 41 [dbD d,i64 (k:Int),i64 c] (i64 (jX cl (iw (prop d (k+2)) c))):=by
 letI:=gtR;have hp:=El (d:=d) R.kind;have hn:=FL (c:=c) (ho.prop (k+2));have hc:=R.rcls;have hl:=R.len;generalize iw (prop d (k+2)) c=s at *;generalize cl=l at *;refine pv Tryz.func41 ?_;repeat' ((conv=>whnf);first|exact kQ|(refine bk ?_ ?_<;>intro _<;>try(exfalso;omega))|refine stq ?_|refine cp hp ?_|refine cp hn ?_|refine cp hc ?_|fail)
 refine aH.by aB T0 (λj:Nat=>⟨tmp 30 [(7,.str s),(8,strs l),(9,i64 (j:Int))],⟨0,[]⟩⟩)
  (λj=>j<=l.length∧¬s∈l.take j) (λj=>l.length-j) 0 ⟨by omega,by simp⟩ ?_ ?_
 ·exact lq0
 intro j ⟨h3,h4⟩;repeat' ((conv=>whnf);first|exact kQ|(refine bk ?_ ?_<;>intro _<;>try(exfalso;omega))|refine stq ?_)
 all_goals(conv=>whnf)
 all_goals first
  | exact aC.int (Fr om asm h4).symm
  | exact aC.int (by rw[kE om] at h4;simp[jX,h4])
  | (refine⟨j+1,⟨by omega,by rw[bP om];simp only[List.mem_append,List.mem_singleton,not_or];exact⟨h4,λe=>by simp_all⟩⟩,by omega,?_⟩
     exact lq0)
set_option maxHeartbeats 8000000 in
theorem E0 {d:Db}{k:Nat}{cl:List Str}{rs:List Rul}{t:Tbl}{text:List Int}(g:Good d) (R:RK k cl rs t) (hx:text.length<=900):@Pk gtR Tryz.prog 15 [dbD d,i64 (k:Int),aD text] 1 (λn=>.tup [aU n 1 (yh (prop d (k+2)) t text),i64 0]) (λn=>bz n (λx=>[i64 x]) (yh (prop d (k+2)) t text)):=by
 letI:=gtR;have hchk:=Et g.ok g.sm g.va (k:=(k:Int)) (by have:=R.kind;omega);have hR:=R.rpa;have hC:∀ j (h:j<text.length),Pu Tryz.prog 41 [dbD d,i64 (k:Int),i64 text[j]] (i64 (jX cl (iw (prop d (k+2)) text[j]))):=λj h=>Hj R g.ok
 have hCL:CL (ak (prop d (k+2)) cl text) cl.length:=by have:=r4 (p:=prop d (k+2)) (text:=text) R.tv;rwa [R.cls] at this
 have hnl:(ak (prop d (k+2)) cl text).length=text.length:=by simp[ak]
 have hD:=λj (hj:j<=text.length)=>R.dec hCL om j om
 have hE:j7 (prop d (k+2)) t text=acts t (ak (prop d (k+2)) cl text):=by rw[j7,if_pos R.tv,R.cls]
 have hAl:(acts t (ak (prop d (k+2)) cl text)).length=text.length+1:=by rw[dW,hnl]
 unfold yh;rw[hE];clear hE;generalize hAe:acts t (ak (prop d (k+2)) cl text)=A at *;have hE:=hAe;have hns:∀ j (h:j<text.length),ak (prop d (k+2)) cl (text.take (j+1))=ak (prop d (k+2)) cl (text.take j)++[jX cl (iw (prop d (k+2)) text[j])]:=λj h=>xh h
 refine Pk.of_v aB T0 Tryz.func15 rfl rfl (by simp[aN,aE,aP,aW,az,ad,aI]) ?_;repeat' ((conv=>whnf);first|exact kQ|(refine bk ?_ ?_<;>intro _<;>try(exfalso;omega))|refine stq ?_|refine cp hchk ?_|refine cp hR ?_|fail)
 refine aH.by2 aB T0 (λ(j:Nat) (o:List Int)=>⟨tmp 60 [(1,i64 (k:Int)),(2,aD text),(3,.ptr 0 0),(9,.ptr 1 0),(10,aU 2 1 o),(11,aJ),(12,i64 (j:Int))],⟨3,bz 2 (λx=>[i64 x]) o++[(1,.cells [strs cl,lstS cF rs] true),(0,.cells (dbC d) true)]⟩⟩)
  (λj o=>j<=text.length∧o=ak (prop d (k+2)) cl (text.take j)) (λj _=>text.length-j) 0 [] ⟨by omega,rfl⟩ ?_ ?_
 ·exact lq [(0,_),(1,_)] []
 intro j o ⟨h3,h4⟩;have hol:o.length=j:=by rw[h4];simp[ak];omega
 by_cases hj:j<text.length
 ·have hc:=hC j hj;have hs2:=hns j hj;rw[<-h4] at hs2;cases o with
  | nil=>
   repeat' ((conv=>whnf);first|exact kQ|(refine bk ?_ ?_<;>intro _<;>try(exfalso;omega))|refine stq ?_|refine ap.by aB T0 [0,0,0,0,0,24,56,126,254,511,1023] (by kernel_rfl) ?_|refine cp hc ?_|fail)
   all_goals(conv=>whnf)
   refine⟨j+1,_,⟨by omega,hs2.symm⟩,by omega,?_⟩;exact lq [(0,_),(1,_),(2,_)] []
  | cons x xs=>
   have hlen:(x::xs).length<=1001:=by omega
   repeat' ((conv=>whnf);first|exact kQ|(refine bk ?_ ?_<;>intro _<;>try(exfalso;omega))|refine stq ?_|refine ap.by aB T0 [0,0,0,0,0,24,56,126,254,511,1023] (by kernel_rfl) ?_|refine cp hc ?_|fail)
   all_goals(conv=>whnf)
   refine⟨j+1,_,⟨by omega,hs2.symm⟩,by omega,?_⟩;exact lq [(0,_),(1,_),(2,_)] []
 cases o with
 | nil=>
  repeat' ((conv=>whnf);first|exact kQ|(refine bk ?_ ?_<;>intro _<;>try(exfalso;omega))|refine stq ?_|fail)
  rw[show ak (prop d (k+2)) cl text=([]:List Int) from by rw[h4,kE om]] at hD
  refine aH.by2 aB T0 (λ(j:Nat) (u:List Int)=>⟨tmp 60 [(9,.ptr 0 0),(10,aD (([]:List Int))),(11,aU 1 1 u),(13,i64 (j:Int))],⟨2,bz 1 (λx=>[i64 x]) u++[(0,.cells [strs cl,lstS cF rs] true)]⟩⟩)
   (λj u=>j<=A.length∧u=ends A j) (λj _=>A.length-j) 0 [] ⟨by omega,rfl⟩ ?_ ?_
  ·exact lq [(0,_)] [2]
  intro j u ⟨h5,h6⟩;have hul:u.length<=j:=by rw[h6];exact sb
  by_cases hj:j<A.length
  ·obtain⟨i,hq⟩:=hD j om;rw[aK hj] at hq;cases u with
   | nil=>
    repeat' ((conv=>whnf);first|exact kQ|(refine bk ?_ ?_<;>intro _<;>try(exfalso;omega))|refine stq ?_|refine cp hq ?_|fail)
    all_goals(conv=>whnf)
    all_goals first
     | (refine⟨j+1,[],⟨by omega,by rw[qv hj om];exact h6⟩,by omega,?_⟩
        exact lq [(0,_)] [])
     | (refine⟨j+1,_,⟨by omega,by rw[ny hj om,<-h6]⟩,by omega,?_⟩
        exact lq [(0,_),(1,_)] [])
   | cons y ys=>
    have hlen2:(y::ys).length<=1001:=by omega
    repeat' ((conv=>whnf);first|exact kQ|(refine bk ?_ ?_<;>intro _<;>try(exfalso;omega))|refine stq ?_|refine cp hq ?_|fail)
    all_goals(conv=>whnf)
    all_goals first
     | (refine⟨j+1,y::ys,⟨by omega,by rw[qv hj om];exact h6⟩,by omega,?_⟩
        exact lq [(0,_),(1,_)] [])
     | (refine⟨j+1,_,⟨by omega,by rw[ny hj om,<-h6]⟩,by omega,?_⟩
        exact lq [(0,_),(1,_)] [])
  obtain rfl:j=A.length:=by omega
  rw[<-h6];cases u with
  | nil=>
   repeat' ((conv=>whnf);first|exact kQ|(refine bk ?_ ?_<;>intro _<;>try(exfalso;omega))|refine stq ?_)
   all_goals(conv=>whnf)
   exact⟨[0],rfl,⟨by simp,λn=>.tup (.cons (.same rfl) (.cons (.same rfl) .nil)),λn=>.nil⟩⟩
  | cons y ys=>
   repeat' ((conv=>whnf);first|exact kQ|(refine bk ?_ ?_<;>intro _<;>try(exfalso;omega))|refine stq ?_)
   all_goals(conv=>whnf)
   exact⟨[1],rfl,⟨by simp,λn=>.tup (.cons (Rd.own si (by simp[sgn]) rfl rfl) (.cons (.same rfl) .nil)),λn=>.cons (id:=1) (by simp[sgn]) rfl rfl (Rb.cells (Rds.same (aF (λ_=>rfl) _)) rfl) .nil⟩⟩
 | cons x xs=>
  repeat' ((conv=>whnf);first|exact kQ|(refine bk ?_ ?_<;>intro _<;>try(exfalso;omega))|refine stq ?_|fail)
  rw[show ak (prop d (k+2)) cl text=x::xs from by rw[h4,kE om]] at hD
  refine aH.by2 aB T0 (λ(j:Nat) (u:List Int)=>⟨tmp 60 [(9,.ptr 0 0),(10,aD (x::xs)),(11,aU 1 1 u),(13,i64 (j:Int))],⟨2,bz 1 (λx=>[i64 x]) u++[(0,.cells [strs cl,lstS cF rs] true)]⟩⟩)
   (λj u=>j<=A.length∧u=ends A j) (λj _=>A.length-j) 0 [] ⟨by omega,rfl⟩ ?_ ?_
  ·exact lq [(0,_)] [2]
  intro j u ⟨h5,h6⟩;have hul:u.length<=j:=by rw[h6];exact sb
  by_cases hj:j<A.length
  ·obtain⟨i,hq⟩:=hD j om;rw[aK hj] at hq;cases u with
   | nil=>
    repeat' ((conv=>whnf);first|exact kQ|(refine bk ?_ ?_<;>intro _<;>try(exfalso;omega))|refine stq ?_|refine cp hq ?_|fail)
    all_goals(conv=>whnf)
    all_goals first
     | (refine⟨j+1,[],⟨by omega,by rw[qv hj om];exact h6⟩,by omega,?_⟩
        exact lq [(0,_)] [])
     | (refine⟨j+1,_,⟨by omega,by rw[ny hj om,<-h6]⟩,by omega,?_⟩
        exact lq [(0,_),(1,_)] [])
   | cons y ys=>
    have hlen2:(y::ys).length<=1001:=by omega
    repeat' ((conv=>whnf);first|exact kQ|(refine bk ?_ ?_<;>intro _<;>try(exfalso;omega))|refine stq ?_|refine cp hq ?_|fail)
    all_goals(conv=>whnf)
    all_goals first
     | (refine⟨j+1,y::ys,⟨by omega,by rw[qv hj om];exact h6⟩,by omega,?_⟩
        exact lq [(0,_),(1,_)] [])
     | (refine⟨j+1,_,⟨by omega,by rw[ny hj om,<-h6]⟩,by omega,?_⟩
        exact lq [(0,_),(1,_)] [])
  obtain rfl:j=A.length:=by omega
  rw[<-h6];cases u with
  | nil=>
   repeat' ((conv=>whnf);first|exact kQ|(refine bk ?_ ?_<;>intro _<;>try(exfalso;omega))|refine stq ?_)
   all_goals(conv=>whnf)
   exact⟨[0],rfl,⟨by simp,λn=>.tup (.cons (.same rfl) (.cons (.same rfl) .nil)),λn=>.nil⟩⟩
  | cons y ys=>
   repeat' ((conv=>whnf);first|exact kQ|(refine bk ?_ ?_<;>intro _<;>try(exfalso;omega))|refine stq ?_)
   all_goals(conv=>whnf)
   exact⟨[1],rfl,⟨by simp,λn=>.tup (.cons (Rd.own si (by simp[sgn]) rfl rfl) (.cons (.same rfl) .nil)),λn=>.cons (id:=1) (by simp[sgn]) rfl rfl (Rb.cells (Rds.same (aF (λ_=>rfl) _)) rfl) .nil⟩⟩
end
section
open Go Go.Am Classical
set_option maxRecDepth 100000
theorem xLB.rdX {p:Prop}(h:p:=by first|exact eT rfl rfl (by first|(rw[hFe];rfl;done)|fail) (by first|(rw[hFe];simp;done)|fail)|exact Rd.sl' rfl sim sim|exact eT rfl rfl (by first|(rw[hFe];exact Gp (x::xs) [_];done)|fail) (by first|(rw[hFe];simp;done)|fail)|fail):p:=h
theorem xLB.rbX {p:Prop}(h:p:=by first|exact Rb.cells (Rds.eqs (af (c:=ca) (sz:=2) (by intro _;rfl) (x::xs) (⟨s,F[j]⟩:Rng)) (aF (by intro _;rfl) _)) rfl|fail):p:=h
open xLB
theorem JZ [GT] {h:aA}{fz:Nat->Bool}{σ:Nat->Option Nat}{id n cap:Nat}{b:List Rng}{cs:List D}{ex bx:Bool}(hf:fz id=true) (hg:h.get id=some (.cells cs bx)) (ec:cs=b.flatMap ca) (e:n=b.length):Rd h fz σ (.sl id 0 n cap 2 ex) (a7 b):=by
 subst e;subst ec;refine .frz hf hg (by rw[ab (sz:=2) (λ_=>rfl)];omega) (.eqs ?_ (aF (λ_=>rfl) _));rw[List.drop_zero,kE (by rw[ab (sz:=2) (λ_=>rfl)];exact kP _)]
theorem Gp (l m:List Int):((l.flatMap λx=>[i64 x]).drop 0).take (l.length*1)++m.map i64=(l++m).map i64:=by
 rw[aO,List.drop_zero,Nat.mul_one,kE si,List.map_append]
set_option maxHeartbeats 8000000 in
theorem Hl {d:Db}{k:Int}{E text:List Int}(hB:@Pk gtR Tryz.prog 15 [dbD d,i64 k,aD text] 1 (λn=>.tup [aU n 1 E,i64 0]) (λn=>bz n (λx=>[i64 x]) E)) (_hx:text.length<=900) (hE:E.length<=1001):@Pu gtR Tryz.prog 18 [dbD d,i64 k,aD text] (.tup [a7 (btw 0 (E++[(text.length:Int)])),i64 0]):=by
 letI:=gtR;obtain⟨F,hFe⟩:∃ F,F=E++[(text.length:Int)]:=⟨_,rfl⟩;have hFl:F.length=E.length+1:=by rw[hFe];simp
 rw[<-hFe];refine pv Tryz.func18 ?_;cases E with
 | nil=>
  repeat' ((conv=>whnf);first|exact kQ|(refine bk ?_ ?_<;>intro _<;>try(exfalso;omega))|refine stq ?_|refine Cll.pk hB ?_|fail)
  refine aH.by3 aB T0 (λ(j:Nat) (s:Int) (o:List Rng)=>⟨tmp 54 [(8,aD F),(10,aU 0 2 o),(11,i64 s),(12,i64 (j:Int))],⟨1,bz 0 ca o⟩⟩)
   (λj s o=>(j<=F.length∧o.length<=j)∧btw 0 F=o++btw s (F.drop j)) (λj _ _=>F.length-j) 0 0 [] ⟨⟨by omega,by simp⟩,rfl⟩ ?_ ?_
  ·exact lq [] [19]
  intro j s o ⟨⟨h3,h5⟩,h4⟩;by_cases hj:j<F.length
  ·have hd:F.drop j=F[j]::F.drop (j+1):=kK hj;cases o with
   | nil=>
    repeat' ((conv=>whnf);first|exact kQ|(refine bk ?_ ?_<;>intro _<;>try(exfalso;omega))|refine stq ?_)
    all_goals(conv=>whnf)
    all_goals first
     | (refine⟨j+1,s,[],⟨⟨by omega,by simp⟩,by rw[h4,hd,fQ om]⟩,by omega,?_⟩
        exact lq0)
     | (refine⟨j+1,F[j],[⟨s,F[j]⟩],⟨⟨by omega,by simp⟩,by rw[h4,hd,d6 om];rfl⟩,by omega,?_⟩
        exact lq [(0,_)] [])
   | cons x xs=>
    have hlen:(x::xs).length<=1001:=by omega
    repeat' ((conv=>whnf);first|exact kQ|(refine bk ?_ ?_<;>intro _<;>try(exfalso;omega))|refine stq ?_)
    all_goals(conv=>whnf)
    all_goals first
     | (refine⟨j+1,s,x::xs,⟨⟨by omega,by omega⟩,by rw[h4,hd,fQ om]⟩,by omega,?_⟩
        exact lq [(0,_)] [])
     | (refine⟨j+1,F[j],(x::xs)++[⟨s,F[j]⟩],⟨⟨by omega,by simp at h5 ⊢;omega⟩,by rw[h4,hd,d6 om,List.append_assoc];rfl⟩,by omega,?_⟩
        exact lq [(0,_)] [])
  have h6:btw 0 F=o:=by rw[h4,List.drop_of_length_le om];simp[btw]
  rw[h6];cases o with
  | nil=>
   repeat' ((conv=>whnf);first|exact kQ|(refine bk ?_ ?_<;>intro _<;>try(exfalso;omega))|refine stq ?_)
   all_goals(conv=>whnf)
   exact⟨.tup (.cons .nil (.cons (.same rfl) .nil))⟩
  | cons x xs=>
   repeat' ((conv=>whnf);first|exact kQ|(refine bk ?_ ?_<;>intro _<;>try(exfalso;omega))|refine stq ?_)
   all_goals(conv=>whnf)
   exact⟨.tup (.cons (JZ (b:=x::xs) rfl rfl rfl rfl) (.cons (.same rfl) .nil))⟩
 | cons x xs=>
  have hlen:(x::xs).length<=1001:=by omega
  repeat' ((conv=>whnf);first|exact kQ|(refine bk ?_ ?_<;>intro _<;>try(exfalso;omega))|refine stq ?_|refine Cll.pk hB ?_|fail)
  refine aH.by3 aB T0 (λ(j:Nat) (s:Int) (o:List Rng)=>⟨tmp 54 [(8,aD F),(10,aU 0 2 o),(11,i64 s),(12,i64 (j:Int))],⟨1,bz 0 ca o⟩⟩)
   (λj s o=>(j<=F.length∧o.length<=j)∧btw 0 F=o++btw s (F.drop j)) (λj _ _=>F.length-j) 0 0 [] ⟨⟨by omega,by simp⟩,rfl⟩ ?_ ?_
  ·exact lq [] [19]
  intro j s o ⟨⟨h3,h5⟩,h4⟩;by_cases hj:j<F.length
  ·have hd:F.drop j=F[j]::F.drop (j+1):=kK hj;cases o with
   | nil=>
    repeat' ((conv=>whnf);first|exact kQ|(refine bk ?_ ?_<;>intro _<;>try(exfalso;omega))|refine stq ?_)
    all_goals(conv=>whnf)
    all_goals first
     | (refine⟨j+1,s,[],⟨⟨by omega,by simp⟩,by rw[h4,hd,fQ om]⟩,by omega,?_⟩
        exact lq0)
     | (refine⟨j+1,F[j],[⟨s,F[j]⟩],⟨⟨by omega,by simp⟩,by rw[h4,hd,d6 om];rfl⟩,by omega,?_⟩
        exact lq [(0,_)] [])
   | cons x xs=>
    have hlen:(x::xs).length<=1001:=by omega
    repeat' ((conv=>whnf);first|exact kQ|(refine bk ?_ ?_<;>intro _<;>try(exfalso;omega))|refine stq ?_)
    all_goals(conv=>whnf)
    all_goals first
     | (refine⟨j+1,s,x::xs,⟨⟨by omega,by omega⟩,by rw[h4,hd,fQ om]⟩,by omega,?_⟩
        exact lq [(0,_)] [])
     | (refine⟨j+1,F[j],(x::xs)++[⟨s,F[j]⟩],⟨⟨by omega,by simp at h5 ⊢;omega⟩,by rw[h4,hd,d6 om,List.append_assoc];rfl⟩,by omega,?_⟩
        exact lq [(0,_)] [])
  have h6:btw 0 F=o:=by rw[h4,List.drop_of_length_le om];simp[btw]
  rw[h6];cases o with
  | nil=>
   repeat' ((conv=>whnf);first|exact kQ|(refine bk ?_ ?_<;>intro _<;>try(exfalso;omega))|refine stq ?_)
   all_goals(conv=>whnf)
   exact⟨.tup (.cons .nil (.cons (.same rfl) .nil))⟩
  | cons x xs=>
   repeat' ((conv=>whnf);first|exact kQ|(refine bk ?_ ?_<;>intro _<;>try(exfalso;omega))|refine stq ?_)
   all_goals(conv=>whnf)
   exact⟨.tup (.cons (JZ (b:=x::xs) rfl rfl rfl rfl) (.cons (.same rfl) .nil))⟩
theorem Ev {d:Db}{k:Nat}{cl:List Str}{rs:List Rul}{t:Tbl}{text:List Int}(g:Good d) (R:RK k cl rs t) (hx:text.length<=900):@Pu gtR Tryz.prog 18 [dbD d,i64 (k:Int),aD text] (.tup [a7 (kc (prop d (k+2)) t text),i64 0]):=by
 have h:=Hl (E0 g R hx) hx (@Ix gtR (prop d (k+2)) t text om);rw[kc,if_pos R.tv];exact h
end
end Go.Proofs.YtbmdndckndnehaaGreatDoor
