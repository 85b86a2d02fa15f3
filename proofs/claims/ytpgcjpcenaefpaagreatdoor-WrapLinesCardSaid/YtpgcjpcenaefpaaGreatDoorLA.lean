/-
  The specification of layer 33, over data: classes, boundaries and ranges by the rules are the program's.
-/
import Derived.Test.YtpgcjpcenaefpaaGreatDoorL3
import Derived.Test.YtpgcjpcenaefpaaGreatDoorV0
import Derived.Test.YtpgcjpcenaefpaaGreatDoorX0
set_option linter.unusedSectionVars false
namespace Go.Proofs.YtpgcjpcenaefpaaGreatDoor
section
open Go Go.Am Classical
set_option maxRecDepth 100000
theorem xLA.rdX {p:Prop}(h:p:=by first|exact Rd.nil|exact lb (b:=x::xs) rfl rfl (aN _) rfl|exact Rd.sl' rfl sim sim|fail):p:=h
theorem xLA.rbX {p:Prop}(h:p:=by first|exact Rb.cells (Rds.same (nq _ _)) rfl|exact Rb.cells (Rds.same (cS _)) rfl|exact Rb.cells (Rds.eqs (aS (by intro _;rfl) (x::xs) _) (aE (by intro _;rfl) _)) rfl|exact Rb.cells (Rds.eqs (aS (by intro _;rfl) (y::ys) _) (aE (by intro _;rfl) _)) rfl|fail):p:=h
open xLA
theorem kT (cl:List Str) (rs:List Rul):aK (.agg [strs cl,lstS bp rs])=true:=by
 letI:=gtR;simp[aK,aF,aY,dP]
section
variable [GT]
end
theorem D8 {g:FuncId}{ds:List D}{d:D}(hn:aF ds=true) (h:cH gtR Tryz.prog (cg Tryz.prog) spC 1000 (.fn g) ds .emp 0 (λd1 h1 _=>cN h1 100000 d1 d)=true):@Pu gtR Tryz.prog g ds d:=by
 letI:=gtR;exact Pu.of_t aB T0 eU hn h
structure RK (k:Nat) (cl:List Str) (rs:List Rul) (t:Tbl):Prop where
 kind:k=1\/k=2\/k=3\/k=4
 rcls:@Pu gtR Tryz.prog 96 [i64 (k:Int)] (strs cl)
 rpa:@Pu gtR Tryz.prog 70 [i64 (k:Int)] (.agg [strs cl,lstS bp rs])
 cls:t.classes=cl
 len:cl.length<=100
 tv:TV t
 dec:∀ {l:List Int},CL l cl.length->l.length<=1000->∀ j:Nat,j<=l.length->∃ i:Int,@Pu gtR Tryz.prog 72 [.agg [strs cl,lstS bp rs],aD l,i64 (j:Int)] (.tup [i64 ((acts t l).getD j 0),i64 i])
theorem ED {d:Db}{k:Int}(ho:d.ok) (hs:SmD d) (hv:DbV d) (hk:1<=k/\k<=4):@Pu gtR Tryz.prog 176 [dbD d,i64 k] (i64 0):=by
  letI:=gtR;obtain⟨e,he,hi⟩:=d6 ho hs;obtain rfl:=hi.2 hv;refine pv Tryz.func176 ?_;repeat' ((conv=>whnf);first|exact kQ|(refine bk ?_ ?_<;>intro _<;>try exact exo)|refine stq ?_|refine cp he ?_|fail)
  all_goals(conv=>whnf)
  all_goals exact aC.same rfl rfl
theorem D9 {d:Db}{k:Nat}(hk:k=1\/k=2\/k=3\/k=4):@Pu gtR Tryz.prog 207 [dbD d,i64 (k:Int)] (bV (prop d (k+2))):=by
 letI:=gtR;have hn:=io (prop d (k+2));rcases hk with rfl|rfl|rfl|rfl
 all_goals
  refine pv Tryz.func207 ?_;repeat' ((conv=>whnf);first|exact kQ|(refine bk ?_ ?_<;>intro _<;>try exact exo)|refine stq ?_)
  all_goals(conv=>whnf)
  exact⟨Rd.eqd rfl hn⟩
theorem G8 {d:Db}{k:Nat}{cl:List Str}{rs:List Rul}{t:Tbl}{c:Int}(R:RK k cl rs t) (ho:d.ok):@Pu gtR Tryz.prog 177 [dbD d,i64 (k:Int),i64 c] (i64 (gE cl (fv (prop d (k+2)) c))):=by
 letI:=gtR;have hp:=D9 (d:=d) R.kind;have hn:=vB (c:=c) (ho.prop (k+2));have hc:=R.rcls;have hl:=R.len;generalize fv (prop d (k+2)) c=s at *;generalize cl=l at *;refine pv Tryz.func177 ?_;repeat' ((conv=>whnf);first|exact kQ|(refine bk ?_ ?_<;>intro _<;>try exact exo)|refine stq ?_|refine cp hp ?_|refine cp hn ?_|refine cp hc ?_|fail)
 refine aG.by aB T0 (λj:Nat=>⟨tmp 30 [(7,.str s),(8,strs l),(9,i64 (j:Int))],⟨0,[]⟩⟩)
  (λj=>j<=l.length/\¬s∈l.take j) (λj=>l.length-j) 0 ⟨om,si⟩ ?_ ?_
 .exact lq0
 intro j ⟨h3,h4⟩;repeat' ((conv=>whnf);first|exact kQ|(refine bk ?_ ?_<;>intro _<;>try exact exo)|refine stq ?_)
 all_goals(conv=>whnf)
 all_goals first
  | exact aC.int (xl om asm h4).symm
  | exact aC.int (by rw[kE om] at h4;simp[gE,h4])
  | (refine⟨j+1,⟨om,by rw[bE om];simp only[List.mem_append,List.mem_singleton,not_or];exact⟨h4,λe=>by simp_all⟩⟩,om,?_⟩
     exact lq0)
set_option maxHeartbeats 8000000 in
theorem EM {d:Db}{k:Nat}{cl:List Str}{rs:List Rul}{t:Tbl}{text:List Int}(g:Good d) (R:RK k cl rs t) (hx:text.length<=900):@Pk gtR Tryz.prog 135 [dbD d,i64 (k:Int),aD text] 1 (λn=>.tup [aP n 1 (yN (prop d (k+2)) t text),i64 0]) (λn=>bK n (λx=>[i64 x]) (yN (prop d (k+2)) t text)):=by
 letI:=gtR;have hchk:=ED g.ok g.sm g.va (k:=(k:Int)) (by have:=R.kind;omega);have hR:=R.rpa;have hC:∀ j (h:j<text.length),Pu Tryz.prog 177 [dbD d,i64 (k:Int),i64 text[j]] (i64 (gE cl (fv (prop d (k+2)) text[j]))):=λj h=>G8 R g.ok
 have hCL:CL (aV (prop d (k+2)) cl text) cl.length:=by have:=ip (p:=prop d (k+2)) (text:=text) R.tv;rwa [R.cls] at this
 have hnl:(aV (prop d (k+2)) cl text).length=text.length:=by simp[aV]
 have hD:=λj (hj:j<=text.length)=>R.dec hCL om j om
 have hE:cm (prop d (k+2)) t text=acts t (aV (prop d (k+2)) cl text):=by rw[cm,if_pos R.tv,R.cls]
 have hAl:(acts t (aV (prop d (k+2)) cl text)).length=text.length+1:=by rw[cj,hnl]
 unfold yN;rw[hE];clear hE;generalize hAe:acts t (aV (prop d (k+2)) cl text)=A at *;have hE:=hAe;have hns:∀ j (h:j<text.length),aV (prop d (k+2)) cl (text.take (j+1))=aV (prop d (k+2)) cl (text.take j)++[gE cl (fv (prop d (k+2)) text[j])]:=λj h=>kX h
 refine Pk.of_v aB T0 Tryz.func135 rfl rfl (by simp[aK,aF,aY,aj,cC,am,aM]) ?_;repeat' ((conv=>whnf);first|exact kQ|(refine bk ?_ ?_<;>intro _<;>try exact exo)|refine stq ?_|refine cp hchk ?_|refine cp hR ?_|fail)
 refine aG.by2 aB T0 (λ(j:Nat) (o:List Int)=>⟨tmp 60 [(1,i64 (k:Int)),(2,aD text),(3,.ptr 0 0),(9,.ptr 1 0),(10,aP 2 1 o),(11,aJ),(12,i64 (j:Int))],⟨3,bK 2 (λx=>[i64 x]) o++[(1,.cells [strs cl,lstS bp rs] true),(0,.cells (dbC d) true)]⟩⟩)
  (λj o=>j<=text.length/\o=aV (prop d (k+2)) cl (text.take j)) (λj _=>text.length-j) 0 [] ⟨om,rfl⟩ ?_ ?_
 .exact lq [(0,_),(1,_)] []
 intro j o ⟨h3,h4⟩;have hol:o.length=j:=by rw[h4];simp[aV];omega
 by_cases hj:j<text.length
 .have hc:=hC j hj;have hs2:=hns j hj;rw[<-h4] at hs2;cases o with
  | nil=>
   repeat' ((conv=>whnf);first|exact kQ|(refine bk ?_ ?_<;>intro _<;>try exact exo)|refine stq ?_|refine ac.by aB T0 [0,0,0,0,0,24,56,126,254,511,1023] (by kernel_rfl) ?_|refine cp hc ?_|fail)
   all_goals(conv=>whnf)
   refine⟨j+1,_,⟨om,hs2.symm⟩,om,?_⟩;exact lq [(0,_),(1,_),(2,_)] []
  | cons x xs=>
   have hlen:(x::xs).length<=1001:=by omega
   repeat' ((conv=>whnf);first|exact kQ|(refine bk ?_ ?_<;>intro _<;>try exact exo)|refine stq ?_|refine ac.by aB T0 [0,0,0,0,0,24,56,126,254,511,1023] (by kernel_rfl) ?_|refine cp hc ?_|fail)
   all_goals(conv=>whnf)
   refine⟨j+1,_,⟨om,hs2.symm⟩,om,?_⟩;exact lq [(0,_),(1,_),(2,_)] []
 cases o with
 | nil=>
  repeat' ((conv=>whnf);first|exact kQ|(refine bk ?_ ?_<;>intro _<;>try exact exo)|refine stq ?_|fail)
  rw[show aV (prop d (k+2)) cl text=([]:List Int) from by rw[h4,kE om]] at hD
  refine aG.by2 aB T0 (λ(j:Nat) (u:List Int)=>⟨tmp 60 [(9,.ptr 0 0),(10,aD (([]:List Int))),(11,aP 1 1 u),(13,i64 (j:Int))],⟨2,bK 1 (λx=>[i64 x]) u++[(0,.cells [strs cl,lstS bp rs] true)]⟩⟩)
   (λj u=>j<=A.length/\u=ends A j) (λj _=>A.length-j) 0 [] ⟨om,rfl⟩ ?_ ?_
  .exact lq [(0,_)] [2]
  intro j u ⟨h5,h6⟩;have hul:u.length<=j:=by rw[h6];exact rR
  by_cases hj:j<A.length
  .obtain⟨i,hq⟩:=hD j om;rw[aI hj] at hq;cases u with
   | nil=>
    repeat' ((conv=>whnf);first|exact kQ|(refine bk ?_ ?_<;>intro _<;>try exact exo)|refine stq ?_|refine cp hq ?_|fail)
    all_goals(conv=>whnf)
    all_goals first
     | (refine⟨j+1,[],⟨om,by rw[pU hj om];exact h6⟩,om,?_⟩
        exact lq [(0,_)] [])
     | (refine⟨j+1,_,⟨om,by rw[nO hj om,<-h6]⟩,om,?_⟩
        exact lq [(0,_),(1,_)] [])
   | cons y ys=>
    have hlen2:(y::ys).length<=1001:=by omega
    repeat' ((conv=>whnf);first|exact kQ|(refine bk ?_ ?_<;>intro _<;>try exact exo)|refine stq ?_|refine cp hq ?_|fail)
    all_goals(conv=>whnf)
    all_goals first
     | (refine⟨j+1,y::ys,⟨om,by rw[pU hj om];exact h6⟩,om,?_⟩
        exact lq [(0,_),(1,_)] [])
     | (refine⟨j+1,_,⟨om,by rw[nO hj om,<-h6]⟩,om,?_⟩
        exact lq [(0,_),(1,_)] [])
  obtain rfl:j=A.length:=by omega
  rw[<-h6];cases u with
  | nil=>
   repeat' ((conv=>whnf);first|exact kQ|(refine bk ?_ ?_<;>intro _<;>try exact exo)|refine stq ?_)
   all_goals(conv=>whnf)
   exact⟨[0],rfl,⟨si,λn=>.tup (.cons (.same rfl) (.cons (.same rfl) .nil)),λn=>.nil⟩⟩
  | cons y ys=>
   repeat' ((conv=>whnf);first|exact kQ|(refine bk ?_ ?_<;>intro _<;>try exact exo)|refine stq ?_)
   all_goals(conv=>whnf)
   exact⟨[1],rfl,⟨si,λn=>.tup (.cons (Rd.own si (by simp[sgn]) rfl rfl) (.cons (.same rfl) .nil)),λn=>.cons (id:=1) (by simp[sgn]) rfl rfl (Rb.cells (Rds.same (aE (λ_=>rfl) _)) rfl) .nil⟩⟩
 | cons x xs=>
  repeat' ((conv=>whnf);first|exact kQ|(refine bk ?_ ?_<;>intro _<;>try exact exo)|refine stq ?_|fail)
  rw[show aV (prop d (k+2)) cl text=x::xs from by rw[h4,kE om]] at hD
  refine aG.by2 aB T0 (λ(j:Nat) (u:List Int)=>⟨tmp 60 [(9,.ptr 0 0),(10,aD (x::xs)),(11,aP 1 1 u),(13,i64 (j:Int))],⟨2,bK 1 (λx=>[i64 x]) u++[(0,.cells [strs cl,lstS bp rs] true)]⟩⟩)
   (λj u=>j<=A.length/\u=ends A j) (λj _=>A.length-j) 0 [] ⟨om,rfl⟩ ?_ ?_
  .exact lq [(0,_)] [2]
  intro j u ⟨h5,h6⟩;have hul:u.length<=j:=by rw[h6];exact rR
  by_cases hj:j<A.length
  .obtain⟨i,hq⟩:=hD j om;rw[aI hj] at hq;cases u with
   | nil=>
    repeat' ((conv=>whnf);first|exact kQ|(refine bk ?_ ?_<;>intro _<;>try exact exo)|refine stq ?_|refine cp hq ?_|fail)
    all_goals(conv=>whnf)
    all_goals first
     | (refine⟨j+1,[],⟨om,by rw[pU hj om];exact h6⟩,om,?_⟩
        exact lq [(0,_)] [])
     | (refine⟨j+1,_,⟨om,by rw[nO hj om,<-h6]⟩,om,?_⟩
        exact lq [(0,_),(1,_)] [])
   | cons y ys=>
    have hlen2:(y::ys).length<=1001:=by omega
    repeat' ((conv=>whnf);first|exact kQ|(refine bk ?_ ?_<;>intro _<;>try exact exo)|refine stq ?_|refine cp hq ?_|fail)
    all_goals(conv=>whnf)
    all_goals first
     | (refine⟨j+1,y::ys,⟨om,by rw[pU hj om];exact h6⟩,om,?_⟩
        exact lq [(0,_),(1,_)] [])
     | (refine⟨j+1,_,⟨om,by rw[nO hj om,<-h6]⟩,om,?_⟩
        exact lq [(0,_),(1,_)] [])
  obtain rfl:j=A.length:=by omega
  rw[<-h6];cases u with
  | nil=>
   repeat' ((conv=>whnf);first|exact kQ|(refine bk ?_ ?_<;>intro _<;>try exact exo)|refine stq ?_)
   all_goals(conv=>whnf)
   exact⟨[0],rfl,⟨si,λn=>.tup (.cons (.same rfl) (.cons (.same rfl) .nil)),λn=>.nil⟩⟩
  | cons y ys=>
   repeat' ((conv=>whnf);first|exact kQ|(refine bk ?_ ?_<;>intro _<;>try exact exo)|refine stq ?_)
   all_goals(conv=>whnf)
   exact⟨[1],rfl,⟨si,λn=>.tup (.cons (Rd.own si (by simp[sgn]) rfl rfl) (.cons (.same rfl) .nil)),λn=>.cons (id:=1) (by simp[sgn]) rfl rfl (Rb.cells (Rds.same (aE (λ_=>rfl) _)) rfl) .nil⟩⟩
end
section
open Go Go.Am Classical
set_option maxRecDepth 100000
theorem xLB.rdX {p:Prop}(h:p:=by first|exact lb rfl rfl (by first|(rw[hFe];rfl;done)|fail) (by first|(rw[hFe];simp;done)|fail)|exact Rd.sl' rfl sim sim|exact lb rfl rfl (by first|(rw[hFe];exact F9 (x::xs) [_];done)|fail) (by first|(rw[hFe];simp;done)|fail)|fail):p:=h
theorem xLB.rbX {p:Prop}(h:p:=by first|exact Rb.cells (Rds.eqs (aS (c:=bm) (sz:=2) (by intro _;rfl) (x::xs) (⟨s,F[j]⟩:Rng)) (aE (by intro _;rfl) _)) rfl|fail):p:=h
open xLB
theorem I2 [GT] {h:aA}{fz:Nat->Bool}{σ:Nat->Option Nat}{id n cap:Nat}{b:List Rng}{cs:List D}{ex bx:Bool}(hf:fz id=true) (hg:h.get id=some (.cells cs bx)) (ec:cs=b.flatMap bm) (e:n=b.length):Rd h fz σ (.sl id 0 n cap 2 ex) (aq b):=by
 subst e;subst ec;refine .frz hf hg (by rw[aZ (sz:=2) (λ_=>rfl)];omega) (.eqs ?_ (aE (λ_=>rfl) _));rw[List.drop_zero,kE (by rw[aZ (sz:=2) (λ_=>rfl)];exact kP _)]
theorem F9 (l m:List Int):((l.flatMap λx=>[i64 x]).drop 0).take (l.length*1)++m.map i64=(l++m).map i64:=by
 rw[aN,List.drop_zero,Nat.mul_one,kE si,List.map_append]
set_option maxHeartbeats 8000000 in
theorem HA {d:Db}{k:Int}{E text:List Int}(hB:@Pk gtR Tryz.prog 135 [dbD d,i64 k,aD text] 1 (λn=>.tup [aP n 1 E,i64 0]) (λn=>bK n (λx=>[i64 x]) E)) (_hx:text.length<=900) (hE:E.length<=1001):@Pu gtR Tryz.prog 103 [dbD d,i64 k,aD text] (.tup [aq (btw 0 (E++[(text.length:Int)])),i64 0]):=by
 letI:=gtR;obtain⟨F,hFe⟩:∃ F,F=E++[(text.length:Int)]:=⟨_,rfl⟩;have hFl:F.length=E.length+1:=by rw[hFe];simp
 rw[<-hFe];refine pv Tryz.func103 ?_;cases E with
 | nil=>
  repeat' ((conv=>whnf);first|exact kQ|(refine bk ?_ ?_<;>intro _<;>try exact exo)|refine stq ?_|refine Cll.pk hB ?_|fail)
  refine aG.by3 aB T0 (λ(j:Nat) (s:Int) (o:List Rng)=>⟨tmp 54 [(8,aD F),(10,aP 0 2 o),(11,i64 s),(12,i64 (j:Int))],⟨1,bK 0 bm o⟩⟩)
   (λj s o=>(j<=F.length/\o.length<=j)/\btw 0 F=o++btw s (F.drop j)) (λj _ _=>F.length-j) 0 0 [] ⟨⟨om,si⟩,rfl⟩ ?_ ?_
  .exact lq [] [19]
  intro j s o ⟨⟨h3,h5⟩,h4⟩;by_cases hj:j<F.length
  .have hd:F.drop j=F[j]::F.drop (j+1):=kK hj;cases o with
   | nil=>
    repeat' ((conv=>whnf);first|exact kQ|(refine bk ?_ ?_<;>intro _<;>try exact exo)|refine stq ?_)
    all_goals(conv=>whnf)
    all_goals first
     | (refine⟨j+1,s,[],⟨⟨om,si⟩,by rw[h4,hd,dW om]⟩,om,?_⟩
        exact lq0)
     | (refine⟨j+1,F[j],[⟨s,F[j]⟩],⟨⟨om,si⟩,by rw[h4,hd,cF om];rfl⟩,om,?_⟩
        exact lq [(0,_)] [])
   | cons x xs=>
    have hlen:(x::xs).length<=1001:=by omega
    repeat' ((conv=>whnf);first|exact kQ|(refine bk ?_ ?_<;>intro _<;>try exact exo)|refine stq ?_)
    all_goals(conv=>whnf)
    all_goals first
     | (refine⟨j+1,s,x::xs,⟨⟨om,om⟩,by rw[h4,hd,dW om]⟩,om,?_⟩
        exact lq [(0,_)] [])
     | (refine⟨j+1,F[j],(x::xs)++[⟨s,F[j]⟩],⟨⟨om,by simp at h5 ⊢;omega⟩,by rw[h4,hd,cF om,List.append_assoc];rfl⟩,om,?_⟩
        exact lq [(0,_)] [])
  have h6:btw 0 F=o:=by rw[h4,List.drop_of_length_le om];simp[btw]
  rw[h6];cases o with
  | nil=>
   repeat' ((conv=>whnf);first|exact kQ|(refine bk ?_ ?_<;>intro _<;>try exact exo)|refine stq ?_)
   all_goals(conv=>whnf)
   exact⟨.tup (.cons .nil (.cons (.same rfl) .nil))⟩
  | cons x xs=>
   repeat' ((conv=>whnf);first|exact kQ|(refine bk ?_ ?_<;>intro _<;>try exact exo)|refine stq ?_)
   all_goals(conv=>whnf)
   exact⟨.tup (.cons (I2 (b:=x::xs) rfl rfl rfl rfl) (.cons (.same rfl) .nil))⟩
 | cons x xs=>
  have hlen:(x::xs).length<=1001:=by omega
  repeat' ((conv=>whnf);first|exact kQ|(refine bk ?_ ?_<;>intro _<;>try exact exo)|refine stq ?_|refine Cll.pk hB ?_|fail)
  refine aG.by3 aB T0 (λ(j:Nat) (s:Int) (o:List Rng)=>⟨tmp 54 [(8,aD F),(10,aP 0 2 o),(11,i64 s),(12,i64 (j:Int))],⟨1,bK 0 bm o⟩⟩)
   (λj s o=>(j<=F.length/\o.length<=j)/\btw 0 F=o++btw s (F.drop j)) (λj _ _=>F.length-j) 0 0 [] ⟨⟨om,si⟩,rfl⟩ ?_ ?_
  .exact lq [] [19]
  intro j s o ⟨⟨h3,h5⟩,h4⟩;by_cases hj:j<F.length
  .have hd:F.drop j=F[j]::F.drop (j+1):=kK hj;cases o with
   | nil=>
    repeat' ((conv=>whnf);first|exact kQ|(refine bk ?_ ?_<;>intro _<;>try exact exo)|refine stq ?_)
    all_goals(conv=>whnf)
    all_goals first
     | (refine⟨j+1,s,[],⟨⟨om,si⟩,by rw[h4,hd,dW om]⟩,om,?_⟩
        exact lq0)
     | (refine⟨j+1,F[j],[⟨s,F[j]⟩],⟨⟨om,si⟩,by rw[h4,hd,cF om];rfl⟩,om,?_⟩
        exact lq [(0,_)] [])
   | cons x xs=>
    have hlen:(x::xs).length<=1001:=by omega
    repeat' ((conv=>whnf);first|exact kQ|(refine bk ?_ ?_<;>intro _<;>try exact exo)|refine stq ?_)
    all_goals(conv=>whnf)
    all_goals first
     | (refine⟨j+1,s,x::xs,⟨⟨om,om⟩,by rw[h4,hd,dW om]⟩,om,?_⟩
        exact lq [(0,_)] [])
     | (refine⟨j+1,F[j],(x::xs)++[⟨s,F[j]⟩],⟨⟨om,by simp at h5 ⊢;omega⟩,by rw[h4,hd,cF om,List.append_assoc];rfl⟩,om,?_⟩
        exact lq [(0,_)] [])
  have h6:btw 0 F=o:=by rw[h4,List.drop_of_length_le om];simp[btw]
  rw[h6];cases o with
  | nil=>
   repeat' ((conv=>whnf);first|exact kQ|(refine bk ?_ ?_<;>intro _<;>try exact exo)|refine stq ?_)
   all_goals(conv=>whnf)
   exact⟨.tup (.cons .nil (.cons (.same rfl) .nil))⟩
  | cons x xs=>
   repeat' ((conv=>whnf);first|exact kQ|(refine bk ?_ ?_<;>intro _<;>try exact exo)|refine stq ?_)
   all_goals(conv=>whnf)
   exact⟨.tup (.cons (I2 (b:=x::xs) rfl rfl rfl rfl) (.cons (.same rfl) .nil))⟩
theorem EG {d:Db}{k:Nat}{cl:List Str}{rs:List Rul}{t:Tbl}{text:List Int}(g:Good d) (R:RK k cl rs t) (hx:text.length<=900):@Pu gtR Tryz.prog 103 [dbD d,i64 (k:Int),aD text] (.tup [aq (qR (prop d (k+2)) t text),i64 0]):=by
 have h:=HA (EM g R hx) hx (@IP gtR (prop d (k+2)) t text om);rw[qR,if_pos R.tv];exact h
theorem AZ {a:List Rng}(ha:a.length<=1000):@Pu gtR Tryz.prog 13 [aq a,aq a] (boo true):=by
 letI:=gtR;refine pv Tryz.func13 ?_;repeat' ((conv=>whnf);first|exact kQ|(refine bk ?_ ?_<;>intro _<;>try exact exo)|refine stq ?_)
 all_goals(conv=>whnf)
 refine aG.by aB T0 (λk:Nat=>⟨tmp 26 [(0,aq a),(1,aq a),(5,i64 (k:Int))],⟨0,[]⟩⟩) (λk=>k<=a.length) (λk=>a.length-k) 0 om ?_ ?_
 .exact lq0
 intro k h3;by_cases hk:k<a.length
 .repeat' ((conv=>whnf);first|exact kQ|(refine bk ?_ ?_<;>intro _<;>try exact exo)|refine stq ?_|refine ac.by aB T0 [0,0,3,7,0,0,48,112,255] (by kernel_rfl) ?_|refine Idx.atS (sz:=2) (c:=bm) (λ_=>rfl) k om om ?_|(split<;>rename_i heq<;>first|(obtain rfl:=Option.some.inj (nw.symm.trans heq))|exact absurd (nw.symm.trans heq) si))
  all_goals(conv=>whnf)
  refine⟨k+1,om,om,?_⟩;exact lq0
 .repeat' ((conv=>whnf);first|exact kQ|(refine bk ?_ ?_<;>intro _<;>try exact exo)|refine stq ?_)
  all_goals(conv=>whnf)
  exact aC.same rfl rfl
theorem J2:@Pu gtR Tryz.prog 13 [aJ,aJ] (boo true):=D8 rfl (by kernel_rfl)
end
end Go.Proofs.YtpgcjpcenaefpaaGreatDoor
