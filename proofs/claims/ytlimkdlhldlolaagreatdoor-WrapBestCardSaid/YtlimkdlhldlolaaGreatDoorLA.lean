/-
  The specification of layer 33, over data: classes, boundaries and ranges by the rules are the program's.
-/
import Derived.Test.YtlimkdlhldlolaaGreatDoorY1
import Derived.Test.YtlimkdlhldlolaaGreatDoorM1
import Derived.Test.YtlimkdlhldlolaaGreatDoorO0
set_option linter.unusedSectionVars false
namespace Go.Proofs.YtlimkdlhldlolaaGreatDoor
set_option maxHeartbeats 8000000
set_option maxRecDepth 100000
section
open Go Go.Am Classical
theorem xLA.rdX {p:Prop}(h:p:=by first|exact Rd.nil|exact lv (b:=x::xs) rfl rfl (aN _) rfl|exact Rd.sl' rfl sim sim|fail):p:=h
theorem xLA.rbX {p:Prop}(h:p:=by first|exact Rb.cells (Rds.same (n9 _ _)) rfl|exact Rb.cells (Rds.same (cV _)) rfl|exact Rb.cells (Rds.eqs (aQ (by intro _;rfl) (x::xs) _) (aE (by intro _;rfl) _)) rfl|exact Rb.cells (Rds.eqs (aQ (by intro _;rfl) (y::ys) _) (aE (by intro _;rfl) _)) rfl|fail):p:=h
open xLA
theorem kX (cl:List Str) (rs:List Rul):aK (.agg [strs cl,lstS cC rs])=true:=by
 letI:=gtR;simp[aK,aF,aX,dP]
section
variable [GT]
end
theorem EX {g:FuncId}{ds:List D}{d:D}(hn:aF ds=true) (h:cK gtR Tryz.prog (ci Tryz.prog) spC 1000 (.fn g) ds .emp 0 (λd1 h1 _=>cQ h1 100000 d1 d)=true):@Pu gtR Tryz.prog g ds d:=by
 letI:=gtR;exact Pu.of_t aB T0 eZ hn h
structure RK (k:Nat) (cl:List Str) (rs:List Rul) (t:Tbl):Prop where
 kind:k=1\/k=2\/k=3\/k=4
 rcls:@Pu gtR Tryz.prog 65 [i64 (k:Int)] (strs cl)
 rpa:@Pu gtR Tryz.prog 46 [i64 (k:Int)] (.agg [strs cl,lstS cC rs])
 cls:t.classes=cl
 len:cl.length<=100
 tv:TV t
 dec:∀ {l:List Int},CL l cl.length->l.length<=1000->∀ j:Nat,j<=l.length->∃ i:Int,@Pu gtR Tryz.prog 48 [.agg [strs cl,lstS cC rs],aC l,i64 (j:Int)] (.tup [i64 ((acts t l).getD j 0),i64 i])
theorem Ec {d:Db}{k:Int}(ho:d.ok) (hs:SmD d) (hv:DbV d) (hk:1<=k/\k<=4):@Pu gtR Tryz.prog 177 [dbD d,i64 k] (i64 0):=by
  letI:=gtR;obtain⟨e,he,hi⟩:=eB ho hs;obtain rfl:=hi.2 hv;refine pv Tryz.func177 ?_;repeat' ((conv=>whnf);first|exact kQ|(refine bk ?_ ?_<;>intro _<;>try exact exo)|refine stq ?_|refine cp he ?_|fail)
  all_goals(conv=>whnf)
  all_goals exact aD.same rfl rfl
theorem EY {d:Db}{k:Nat}(hk:k=1\/k=2\/k=3\/k=4):@Pu gtR Tryz.prog 200 [dbD d,i64 (k:Int)] (bY (prop d (k+2))):=by
 letI:=gtR;have hn:=io (prop d (k+2));rcases hk with rfl|rfl|rfl|rfl
 all_goals
  refine pv Tryz.func200 ?_;repeat' ((conv=>whnf);first|exact kQ|(refine bk ?_ ?_<;>intro _<;>try exact exo)|refine stq ?_)
  (conv=>whnf)
  exact⟨Rd.eqd rfl hn⟩
theorem Hc {d:Db}{k:Nat}{cl:List Str}{rs:List Rul}{t:Tbl}{c:Int}(R:RK k cl rs t) (ho:d.ok):@Pu gtR Tryz.prog 178 [dbD d,i64 (k:Int),i64 c] (i64 (gC cl (fu (prop d (k+2)) c))):=by
 letI:=gtR;have hp:=EY (d:=d) R.kind;have hn:=vJ (c:=c) (ho.prop (k+2));have hc:=R.rcls;have hl:=R.len;generalize fu (prop d (k+2)) c=s at *;generalize cl=l at *;refine pv Tryz.func178 ?_;repeat' ((conv=>whnf);first|exact kQ|(refine bk ?_ ?_<;>intro _<;>try exact exo)|refine stq ?_|refine cp hp ?_|refine cp hn ?_|refine cp hc ?_|fail)
 refine aG.by aB T0 (λj:Nat=>⟨tmp 30 [(7,.str s),(8,strs l),(9,i64 (j:Int))],⟨0,[]⟩⟩)
  (λj=>j<=l.length/\¬s∈l.take j) (λj=>l.length-j) 0 ⟨om,si⟩ ?_ ?_
 .exact lq0
 intro j ⟨h3,h4⟩;repeat' ((conv=>whnf);first|exact kQ|(refine bk ?_ ?_<;>intro _<;>try exact exo)|refine stq ?_)
 all_goals(conv=>whnf)
 all_goals first
  | exact aD.int (xz om asm h4).symm
  | exact aD.int (by rw[kE om] at h4;simp[gC,h4])
  | (refine⟨j+1,⟨om,by rw[bI om];simp only[List.mem_append,List.mem_singleton,not_or];exact⟨h4,λe=>by simp_all⟩⟩,om,?_⟩
     exact lq0)
theorem Ek {d:Db}{k:Nat}{cl:List Str}{rs:List Rul}{t:Tbl}{text:List Int}(g:Good d) (R:RK k cl rs t) (hx:text.length<=900):@Pk gtR Tryz.prog 140 [dbD d,i64 (k:Int),aC text] 1 (λn=>.tup [aP n 1 (yc (prop d (k+2)) t text),i64 0]) (λn=>bS n (λx=>[i64 x]) (yc (prop d (k+2)) t text)):=by
 letI:=gtR;have hchk:=Ec g.ok g.sm g.va (k:=(k:Int)) (by have:=R.kind;omega);have hR:=R.rpa;have hC:∀ j (h:j<text.length),Pu Tryz.prog 178 [dbD d,i64 (k:Int),i64 text[j]] (i64 (gC cl (fu (prop d (k+2)) text[j]))):=λj h=>Hc R g.ok
 have hCL:CL (aW (prop d (k+2)) cl text) cl.length:=by have:=ip (p:=prop d (k+2)) (text:=text) R.tv;rwa [R.cls] at this
 have hnl:(aW (prop d (k+2)) cl text).length=text.length:=by simp[aW]
 have hD:=λj (hj:j<=text.length)=>R.dec hCL om j om
 have hE:cn (prop d (k+2)) t text=acts t (aW (prop d (k+2)) cl text):=by rw[cn,if_pos R.tv,R.cls]
 have hAl:(acts t (aW (prop d (k+2)) cl text)).length=text.length+1:=by rw[cm,hnl]
 unfold yc;rw[hE];clear hE;generalize hAe:acts t (aW (prop d (k+2)) cl text)=A at *;have hE:=hAe;have hns:∀ j (h:j<text.length),aW (prop d (k+2)) cl (text.take (j+1))=aW (prop d (k+2)) cl (text.take j)++[gC cl (fu (prop d (k+2)) text[j])]:=λj h=>kc h
 refine Pk.of_v aB T0 Tryz.func140 rfl rfl (by simp[aK,aF,aX,ah,bn,ak,aM]) ?_;repeat' ((conv=>whnf);first|exact kQ|(refine bk ?_ ?_<;>intro _<;>try exact exo)|refine stq ?_|refine cp hchk ?_|refine cp hR ?_|fail)
 refine aG.by2 aB T0 (λ(j:Nat) (o:List Int)=>⟨tmp 60 [(1,i64 (k:Int)),(2,aC text),(3,.ptr 0 0),(9,.ptr 1 0),(10,aP 2 1 o),(11,aJ),(12,i64 (j:Int))],⟨3,bS 2 (λx=>[i64 x]) o++[(1,.cells [strs cl,lstS cC rs] true),(0,.cells (dbC d) true)]⟩⟩)
  (λj o=>j<=text.length/\o=aW (prop d (k+2)) cl (text.take j)) (λj _=>text.length-j) 0 [] ⟨om,rfl⟩ ?_ ?_
 .exact lq [(0,_),(1,_)] []
 intro j o ⟨h3,h4⟩;have hol:o.length=j:=by rw[h4];simp[aW];omega
 by_cases hj:j<text.length
 .have hc:=hC j hj;have hs2:=hns j hj;rw[<-h4] at hs2;cases o with
  | nil=>
   repeat' ((conv=>whnf);first|exact kQ|(refine bk ?_ ?_<;>intro _<;>try exact exo)|refine stq ?_|refine ac.by aB T0 [0,0,0,0,0,24,56,126,254,511,1023] (by kernel_rfl) ?_|refine cp hc ?_|fail)
   (conv=>whnf)
   refine⟨j+1,_,⟨om,hs2.symm⟩,om,?_⟩;exact lq [(0,_),(1,_),(2,_)] []
  | cons x xs=>
   have hlen:(x::xs).length<=1001:=by omega
   repeat' ((conv=>whnf);first|exact kQ|(refine bk ?_ ?_<;>intro _<;>try exact exo)|refine stq ?_|refine ac.by aB T0 [0,0,0,0,0,24,56,126,254,511,1023] (by kernel_rfl) ?_|refine cp hc ?_|fail)
   (conv=>whnf)
   refine⟨j+1,_,⟨om,hs2.symm⟩,om,?_⟩;exact lq [(0,_),(1,_),(2,_)] []
 cases o with
 | nil=>
  repeat' ((conv=>whnf);first|exact kQ|(refine bk ?_ ?_<;>intro _<;>try exact exo)|refine stq ?_|fail)
  rw[show aW (prop d (k+2)) cl text=([]:List Int) from by rw[h4,kE om]] at hD
  refine aG.by2 aB T0 (λ(j:Nat) (u:List Int)=>⟨tmp 60 [(9,.ptr 0 0),(10,aC (([]:List Int))),(11,aP 1 1 u),(13,i64 (j:Int))],⟨2,bS 1 (λx=>[i64 x]) u++[(0,.cells [strs cl,lstS cC rs] true)]⟩⟩)
   (λj u=>j<=A.length/\u=ends A j) (λj _=>A.length-j) 0 [] ⟨om,rfl⟩ ?_ ?_
  .exact lq [(0,_)] [2]
  intro j u ⟨h5,h6⟩;have hul:u.length<=j:=by rw[h6];exact rZ
  by_cases hj:j<A.length
  .obtain⟨i,hq⟩:=hD j om;rw[aH hj] at hq;cases u with
   | nil=>
    repeat' ((conv=>whnf);first|exact kQ|(refine bk ?_ ?_<;>intro _<;>try exact exo)|refine stq ?_|refine cp hq ?_|fail)
    all_goals(conv=>whnf)
    all_goals first
     | (refine⟨j+1,[],⟨om,by rw[pf hj om];exact h6⟩,om,?_⟩
        exact lq [(0,_)] [])
     | (refine⟨j+1,_,⟨om,by rw[nX hj om,<-h6]⟩,om,?_⟩
        exact lq [(0,_),(1,_)] [])
   | cons y ys=>
    have hlen2:(y::ys).length<=1001:=by omega
    repeat' ((conv=>whnf);first|exact kQ|(refine bk ?_ ?_<;>intro _<;>try exact exo)|refine stq ?_|refine cp hq ?_|fail)
    all_goals(conv=>whnf)
    all_goals first
     | (refine⟨j+1,y::ys,⟨om,by rw[pf hj om];exact h6⟩,om,?_⟩
        exact lq [(0,_),(1,_)] [])
     | (refine⟨j+1,_,⟨om,by rw[nX hj om,<-h6]⟩,om,?_⟩
        exact lq [(0,_),(1,_)] [])
  obtain rfl:j=A.length:=by omega
  rw[<-h6];cases u with
  | nil=>
   repeat' ((conv=>whnf);first|exact kQ|(refine bk ?_ ?_<;>intro _<;>try exact exo)|refine stq ?_)
   (conv=>whnf)
   exact⟨[0],rfl,⟨si,λn=>.tup (.cons (.same rfl) (.cons (.same rfl) .nil)),λn=>.nil⟩⟩
  | cons y ys=>
   repeat' ((conv=>whnf);first|exact kQ|(refine bk ?_ ?_<;>intro _<;>try exact exo)|refine stq ?_)
   (conv=>whnf)
   exact⟨[1],rfl,⟨si,λn=>.tup (.cons (Rd.own si (by simp[sgn]) rfl rfl) (.cons (.same rfl) .nil)),λn=>.cons (id:=1) (by simp[sgn]) rfl rfl (Rb.cells (Rds.same (aE (λ_=>rfl) _)) rfl) .nil⟩⟩
 | cons x xs=>
  repeat' ((conv=>whnf);first|exact kQ|(refine bk ?_ ?_<;>intro _<;>try exact exo)|refine stq ?_|fail)
  rw[show aW (prop d (k+2)) cl text=x::xs from by rw[h4,kE om]] at hD
  refine aG.by2 aB T0 (λ(j:Nat) (u:List Int)=>⟨tmp 60 [(9,.ptr 0 0),(10,aC (x::xs)),(11,aP 1 1 u),(13,i64 (j:Int))],⟨2,bS 1 (λx=>[i64 x]) u++[(0,.cells [strs cl,lstS cC rs] true)]⟩⟩)
   (λj u=>j<=A.length/\u=ends A j) (λj _=>A.length-j) 0 [] ⟨om,rfl⟩ ?_ ?_
  .exact lq [(0,_)] [2]
  intro j u ⟨h5,h6⟩;have hul:u.length<=j:=by rw[h6];exact rZ
  by_cases hj:j<A.length
  .obtain⟨i,hq⟩:=hD j om;rw[aH hj] at hq;cases u with
   | nil=>
    repeat' ((conv=>whnf);first|exact kQ|(refine bk ?_ ?_<;>intro _<;>try exact exo)|refine stq ?_|refine cp hq ?_|fail)
    all_goals(conv=>whnf)
    all_goals first
     | (refine⟨j+1,[],⟨om,by rw[pf hj om];exact h6⟩,om,?_⟩
        exact lq [(0,_)] [])
     | (refine⟨j+1,_,⟨om,by rw[nX hj om,<-h6]⟩,om,?_⟩
        exact lq [(0,_),(1,_)] [])
   | cons y ys=>
    have hlen2:(y::ys).length<=1001:=by omega
    repeat' ((conv=>whnf);first|exact kQ|(refine bk ?_ ?_<;>intro _<;>try exact exo)|refine stq ?_|refine cp hq ?_|fail)
    all_goals(conv=>whnf)
    all_goals first
     | (refine⟨j+1,y::ys,⟨om,by rw[pf hj om];exact h6⟩,om,?_⟩
        exact lq [(0,_),(1,_)] [])
     | (refine⟨j+1,_,⟨om,by rw[nX hj om,<-h6]⟩,om,?_⟩
        exact lq [(0,_),(1,_)] [])
  obtain rfl:j=A.length:=by omega
  rw[<-h6];cases u with
  | nil=>
   repeat' ((conv=>whnf);first|exact kQ|(refine bk ?_ ?_<;>intro _<;>try exact exo)|refine stq ?_)
   (conv=>whnf)
   exact⟨[0],rfl,⟨si,λn=>.tup (.cons (.same rfl) (.cons (.same rfl) .nil)),λn=>.nil⟩⟩
  | cons y ys=>
   repeat' ((conv=>whnf);first|exact kQ|(refine bk ?_ ?_<;>intro _<;>try exact exo)|refine stq ?_)
   (conv=>whnf)
   exact⟨[1],rfl,⟨si,λn=>.tup (.cons (Rd.own si (by simp[sgn]) rfl rfl) (.cons (.same rfl) .nil)),λn=>.cons (id:=1) (by simp[sgn]) rfl rfl (Rb.cells (Rds.same (aE (λ_=>rfl) _)) rfl) .nil⟩⟩
end
section
open Go Go.Am Classical
theorem xLB.rdX {p:Prop}(h:p:=by first|exact lv rfl rfl (by first|(rw[hFe];rfl;done)|fail) (by first|(rw[hFe];simp;done)|fail)|exact Rd.sl' rfl sim sim|exact lv rfl rfl (by first|(rw[hFe];exact GY (x::xs) [_];done)|fail) (by first|(rw[hFe];simp;done)|fail)|fail):p:=h
theorem xLB.rbX {p:Prop}(h:p:=by first|exact Rb.cells (Rds.eqs (aQ (c:=bm) (sz:=2) (by intro _;rfl) (x::xs) (⟨s,F[j]⟩:Rng)) (aE (by intro _;rfl) _)) rfl|fail):p:=h
open xLB
theorem JY [GT] {h:aA}{fz:Nat->Bool}{σ:Nat->Option Nat}{id n cap:Nat}{b:List Rng}{cs:List D}{ex bx:Bool}(hf:fz id=true) (hg:h.get id=some (.cells cs bx)) (ec:cs=b.flatMap bm) (e:n=b.length):Rd h fz σ (.sl id 0 n cap 2 ex) (ax b):=by
 subst e;subst ec;refine .frz hf hg (by rw[aa (sz:=2) (λ_=>rfl)];omega) (.eqs ?_ (aE (λ_=>rfl) _));rw[List.drop_zero,kE (by rw[aa (sz:=2) (λ_=>rfl)];exact kP _)]
theorem GY (l m:List Int):((l.flatMap λx=>[i64 x]).drop 0).take (l.length*1)++m.map i64=(l++m).map i64:=by
 rw[aN,List.drop_zero,Nat.mul_one,kE si,List.map_append]
theorem He {d:Db}{k:Int}{E text:List Int}(hB:@Pk gtR Tryz.prog 140 [dbD d,i64 k,aC text] 1 (λn=>.tup [aP n 1 E,i64 0]) (λn=>bS n (λx=>[i64 x]) E)) (_hx:text.length<=900) (hE:E.length<=1001):@Pu gtR Tryz.prog 101 [dbD d,i64 k,aC text] (.tup [ax (btw 0 (E++[(text.length:Int)])),i64 0]):=by
 letI:=gtR;obtain⟨F,hFe⟩:∃ F,F=E++[(text.length:Int)]:=⟨_,rfl⟩;have hFl:F.length=E.length+1:=by rw[hFe];simp
 rw[<-hFe];refine pv Tryz.func101 ?_;cases E with
 | nil=>
  repeat' ((conv=>whnf);first|exact kQ|(refine bk ?_ ?_<;>intro _<;>try exact exo)|refine stq ?_|refine Cll.pk hB ?_|fail)
  refine aG.by3 aB T0 (λ(j:Nat) (s:Int) (o:List Rng)=>⟨tmp 54 [(8,aC F),(10,aP 0 2 o),(11,i64 s),(12,i64 (j:Int))],⟨1,bS 0 bm o⟩⟩)
   (λj s o=>(j<=F.length/\o.length<=j)/\btw 0 F=o++btw s (F.drop j)) (λj _ _=>F.length-j) 0 0 [] ⟨⟨om,si⟩,rfl⟩ ?_ ?_
  .exact lq [] [19]
  intro j s o ⟨⟨h3,h5⟩,h4⟩;by_cases hj:j<F.length
  .have hd:F.drop j=F[j]::F.drop (j+1):=kK hj;cases o with
   | nil=>
    repeat' ((conv=>whnf);first|exact kQ|(refine bk ?_ ?_<;>intro _<;>try exact exo)|refine stq ?_)
    all_goals(conv=>whnf)
    all_goals first
     | (refine⟨j+1,s,[],⟨⟨om,si⟩,by rw[h4,hd,dW om]⟩,om,?_⟩
        exact lq0)
     | (refine⟨j+1,F[j],[⟨s,F[j]⟩],⟨⟨om,si⟩,by rw[h4,hd,cJ om];rfl⟩,om,?_⟩
        exact lq [(0,_)] [])
   | cons x xs=>
    have hlen:(x::xs).length<=1001:=by omega
    repeat' ((conv=>whnf);first|exact kQ|(refine bk ?_ ?_<;>intro _<;>try exact exo)|refine stq ?_)
    all_goals(conv=>whnf)
    all_goals first
     | (refine⟨j+1,s,x::xs,⟨⟨om,om⟩,by rw[h4,hd,dW om]⟩,om,?_⟩
        exact lq [(0,_)] [])
     | (refine⟨j+1,F[j],(x::xs)++[⟨s,F[j]⟩],⟨⟨om,by simp at h5 ⊢;omega⟩,by rw[h4,hd,cJ om,List.append_assoc];rfl⟩,om,?_⟩
        exact lq [(0,_)] [])
  have h6:btw 0 F=o:=by rw[h4,List.drop_of_length_le om];simp[btw]
  rw[h6];cases o with
  | nil=>
   repeat' ((conv=>whnf);first|exact kQ|(refine bk ?_ ?_<;>intro _<;>try exact exo)|refine stq ?_)
   (conv=>whnf)
   exact⟨.tup (.cons .nil (.cons (.same rfl) .nil))⟩
  | cons x xs=>
   repeat' ((conv=>whnf);first|exact kQ|(refine bk ?_ ?_<;>intro _<;>try exact exo)|refine stq ?_)
   (conv=>whnf)
   exact⟨.tup (.cons (JY (b:=x::xs) rfl rfl rfl rfl) (.cons (.same rfl) .nil))⟩
 | cons x xs=>
  have hlen:(x::xs).length<=1001:=by omega
  repeat' ((conv=>whnf);first|exact kQ|(refine bk ?_ ?_<;>intro _<;>try exact exo)|refine stq ?_|refine Cll.pk hB ?_|fail)
  refine aG.by3 aB T0 (λ(j:Nat) (s:Int) (o:List Rng)=>⟨tmp 54 [(8,aC F),(10,aP 0 2 o),(11,i64 s),(12,i64 (j:Int))],⟨1,bS 0 bm o⟩⟩)
   (λj s o=>(j<=F.length/\o.length<=j)/\btw 0 F=o++btw s (F.drop j)) (λj _ _=>F.length-j) 0 0 [] ⟨⟨om,si⟩,rfl⟩ ?_ ?_
  .exact lq [] [19]
  intro j s o ⟨⟨h3,h5⟩,h4⟩;by_cases hj:j<F.length
  .have hd:F.drop j=F[j]::F.drop (j+1):=kK hj;cases o with
   | nil=>
    repeat' ((conv=>whnf);first|exact kQ|(refine bk ?_ ?_<;>intro _<;>try exact exo)|refine stq ?_)
    all_goals(conv=>whnf)
    all_goals first
     | (refine⟨j+1,s,[],⟨⟨om,si⟩,by rw[h4,hd,dW om]⟩,om,?_⟩
        exact lq0)
     | (refine⟨j+1,F[j],[⟨s,F[j]⟩],⟨⟨om,si⟩,by rw[h4,hd,cJ om];rfl⟩,om,?_⟩
        exact lq [(0,_)] [])
   | cons x xs=>
    have hlen:(x::xs).length<=1001:=by omega
    repeat' ((conv=>whnf);first|exact kQ|(refine bk ?_ ?_<;>intro _<;>try exact exo)|refine stq ?_)
    all_goals(conv=>whnf)
    all_goals first
     | (refine⟨j+1,s,x::xs,⟨⟨om,om⟩,by rw[h4,hd,dW om]⟩,om,?_⟩
        exact lq [(0,_)] [])
     | (refine⟨j+1,F[j],(x::xs)++[⟨s,F[j]⟩],⟨⟨om,by simp at h5 ⊢;omega⟩,by rw[h4,hd,cJ om,List.append_assoc];rfl⟩,om,?_⟩
        exact lq [(0,_)] [])
  have h6:btw 0 F=o:=by rw[h4,List.drop_of_length_le om];simp[btw]
  rw[h6];cases o with
  | nil=>
   repeat' ((conv=>whnf);first|exact kQ|(refine bk ?_ ?_<;>intro _<;>try exact exo)|refine stq ?_)
   (conv=>whnf)
   exact⟨.tup (.cons .nil (.cons (.same rfl) .nil))⟩
  | cons x xs=>
   repeat' ((conv=>whnf);first|exact kQ|(refine bk ?_ ?_<;>intro _<;>try exact exo)|refine stq ?_)
   (conv=>whnf)
   exact⟨.tup (.cons (JY (b:=x::xs) rfl rfl rfl rfl) (.cons (.same rfl) .nil))⟩
theorem Ef {d:Db}{k:Nat}{cl:List Str}{rs:List Rul}{t:Tbl}{text:List Int}(g:Good d) (R:RK k cl rs t) (hx:text.length<=900):@Pu gtR Tryz.prog 101 [dbD d,i64 (k:Int),aC text] (.tup [ax (qY (prop d (k+2)) t text),i64 0]):=by
 have h:=He (Ek g R hx) hx (@Iw gtR (prop d (k+2)) t text om);rw[qY,if_pos R.tv];exact h
theorem Ap {a:List Rng}(ha:a.length<=1000):@Pu gtR Tryz.prog 8 [ax a,ax a] (boo true):=by
 letI:=gtR;refine pv Tryz.func8 ?_;repeat' ((conv=>whnf);first|exact kQ|(refine bk ?_ ?_<;>intro _<;>try exact exo)|refine stq ?_)
 (conv=>whnf)
 refine aG.by aB T0 (λk:Nat=>⟨tmp 26 [(0,ax a),(1,ax a),(5,i64 (k:Int))],⟨0,[]⟩⟩) (λk=>k<=a.length) (λk=>a.length-k) 0 om ?_ ?_
 .exact lq0
 intro k h3;by_cases hk:k<a.length
 .repeat' ((conv=>whnf);first|exact kQ|(refine bk ?_ ?_<;>intro _<;>try exact exo)|refine stq ?_|refine ac.by aB T0 [0,0,3,7,0,0,48,112,255] (by kernel_rfl) ?_|refine Idx.atS (sz:=2) (c:=bm) (λ_=>rfl) k om om ?_|(split<;>rename_i heq<;>first|(obtain rfl:=Option.some.inj (oC.symm.trans heq))|exact absurd (oC.symm.trans heq) si))
  (conv=>whnf)
  refine⟨k+1,om,om,?_⟩;exact lq0
 .repeat' ((conv=>whnf);first|exact kQ|(refine bk ?_ ?_<;>intro _<;>try exact exo)|refine stq ?_)
  (conv=>whnf)
  exact aD.same rfl rfl
theorem sr_nil:@Pu gtR Tryz.prog 8 [aJ,aJ] (boo true):=EX rfl (by kernel_rfl)
end
section
open Go Go.Am Classical
theorem rk1:RK 1 cl1 rs1 t1:=by
 letI:=gtR;have h1:=JS;have h2:Pu Tryz.prog 66 [i64 1] (.str D6):=EX rfl (by kernel_rfl);have h3:=HU;have hc:Pu Tryz.prog 68 [.agg [strs cl1,lstS cC rs1]] (i64 0):=EX (by simp[aF,kX]) (by kernel_rfl);have ho:rs1.all (λr=>okP r.left&&okP r.right)=true:=by kernel_rfl
 refine⟨om,JS,?_,rfl,by decide,tv1.1,λ{l} hl hx j hj=>?_⟩
 .refine pv Tryz.func46 ?_;repeat' ((conv=>whnf);first|exact kQ|(refine bk ?_ ?_<;>intro _<;>try exact exo)|refine stq ?_|(refine Cll.dec (BL (k:=1)) (λ_=>?_) (λ_=>?_)<;>(try exact exo))|refine cp h1 ?_|refine cp h2 ?_|refine cp h3 ?_|fail)
  (conv=>whnf)
  exact aD.same (kX _ _) rfl
 .obtain⟨q,q1,q2,q3⟩:=Be law1 hl hj
  have e:(acts t1 l).getD j 0=v8 rs1 q:=by
   rw[aH (by rw[cm];omega)];simp only[acts,List.getElem_map,List.getElem_range];exact q2
  rw[e]
  exact⟨_,tJ hc (λr hr=>by
   have:=List.all_eq_true.1 ho r hr
   simp only[kC] at this
   exact⟨rc _ this.1,rc _ this.2⟩) (by decide) (by decide) hx hl hj q1⟩
end
section
open Go Go.Am Classical
theorem xO8.rdX {p:Prop}(h:p:=by first|exact Rd.int om|exact Rd.same rfl|exact Rd.sl' rfl sim sim|fail):p:=h
theorem xO8.rbX {p:Prop}(h:p:=by first|exact Rb.cells (Rds.same (cV _)) rfl|exact Rb.cells (Rds.eqs (aQ (by intro _;rfl) (x::xs) _) (aE (by intro _;rfl) _)) rfl|fail):p:=h
open xO8
theorem Ez {text:List Int}{lo:Int}{k:Nat}(h0:0<=lo) (h1:lo<=k) (hk:k<text.length):pce text lo ((k+1:Nat):Int)=pce text lo k++[text[k]]:=by
 unfold pce;rw[show(((k+1:Nat):Int)-lo).toNat=((k:Int)-lo).toNat+1 by omega,List.take_add_one,List.getElem?_drop,show lo.toNat+((k:Int)-lo).toNat=k by omega,List.getElem?_eq_getElem hk];rfl
theorem xN {p:Prp}{text:List Int}{lo:Int}{k:Nat}(h0:0<=lo) (h1:lo<=k) (hk:k<text.length):mxW p (pce text lo ((k+1:Nat):Int))=max (mxW p (pce text lo k)) (fB p text[k]):=by
 rw[Ez h0 h1 hk,xM]
def nN:List Int->Int
 | []=>0
 | x::l=>x+nN l
theorem tf:∀ (l:List Int) (x:Int),nN (l++[x])=nN l+x
 | [],x=>by simp[nN]
 | y::l,x=>by simp only[List.cons_append,nN,tf l x];omega
theorem Cu {l:List Int}{k:Nat}(h:k<l.length):nN (l.take (k+1))=nN (l.take k)+l[k]:=by
 rw[List.take_add_one,List.getElem?_eq_getElem h];exact tf _ _
theorem xo (p:Prp) (text:List Int):∀ P:List Rng,nN (P.map (eY p text))=cw p text P
 | []=>rfl
 | r::P=>by simp only[List.map_cons,nN,cw,xo p text P]
theorem rD:∀ {l:List Int},(∀ x∈l,0<=x/\x<=2)->0<=nN l/\nN l<=2*l.length
 | [],_=>by simp[nN]
 | x::l,h=>by
  have h1:=rD λy hy=>h y (List.mem_cons_of_mem _ hy)
  have h2:=h x si;simp only[nN,kO];omega
theorem Ej {d:Db}{text:List Int}{P:List Rng}(hcode:∀ c:Int,@Pu gtR Tryz.prog 102 [bY d.wid,i64 c] (i64 (fB d.wid c))) (hP:@Pu gtR Tryz.prog 101 [dbD d,i64 1,aC text] (.tup [ax P,i64 0])) (hc:Chn 0 P text.length) (hx:text.length<=900):@Pu gtR Tryz.prog 73 [dbD d,aC text] (.tup [ax P,aC (P.map (eY d.wid text))]):=by
 letI:=gtR;have hpl:=gD hc;refine pv Tryz.func73 ?_;repeat' ((conv=>whnf);first|exact kQ|(refine bk ?_ ?_<;>intro _<;>try exact exo)|refine stq ?_|refine cp hP ?_|fail)
 refine aG.by2 aB T0 (λ(i:Nat) (o:List Int)=>⟨tmp 53 [(1,aC text),(2,.ptr 0 0),(6,ax P),(8,aP 1 1 o),(9,i64 (i:Int))],⟨2,bS 1 (λx=>[i64 x]) o++[(0,.cells (dbC d) true)]⟩⟩)
  (λi o=>i<=P.length/\o=(P.take i).map (eY d.wid text)) (λi _=>P.length-i) 0 [] ⟨om,rfl⟩ ?_ ?_
 .exact lq [(0,_)] []
 intro i o ⟨h3,h4⟩;have hol:o.length=i:=by rw[h4];simp;omega
 by_cases hi:i<P.length
 .have hat:=vh hi hc;have hle:=(pm i hc).1;have hs2:o++[eY d.wid text P[i]]=(P.take (i+1)).map (eY d.wid text):=by rw[h4,List.take_add_one,List.getElem?_eq_getElem hi,List.map_append];rfl
  have hwr:=jG d.wid text P[i];cases o with
  | nil=>
   repeat' ((conv=>whnf);first|exact kQ|(refine bk ?_ ?_<;>intro _<;>try exact exo)|refine stq ?_|fail)
   refine aG.by2 aB T0 (λ(k:Nat) (m:Int)=>⟨tmp 53 [(1,aC text),(2,.ptr 0 0),(6,ax P),(8,aP 1 1 ([]:List Int)),(9,i64 (i:Int)),(10,i64 m),(11,i64 (k:Int))],⟨2,bS 1 (λx=>[i64 x]) ([]:List Int)++[(0,.cells (dbC d) true)]⟩⟩)
    (λk m=>(P[i].lo<=(k:Int)/\(k:Int)<=P[i].hi)/\m=mxW d.wid (pce text P[i].lo k)) (λk _=>P[i].hi.toNat-k) P[i].lo.toNat 0 ⟨⟨om,om⟩,by rw[show((P[i].lo.toNat:Nat):Int)=P[i].lo by omega];simp[pce,mxW]⟩ ?_ ?_
   .exact lq [(0,_)] []
   intro k m ⟨⟨h5,h6⟩,h7⟩;have hmr:=iq d.wid (pce text P[i].lo k);by_cases hk:(k:Int)<P[i].hi
   .have hkt:k<text.length:=om;have hC:=hcode text[k];have hcr:=fV d.wid text[k];have hms:=xN (p:=d.wid) (text:=text) (lo:=P[i].lo) (k:=k) om om hkt;generalize hcv:fB d.wid text[k]=cv at *;repeat' ((conv=>whnf);first|refine Idx.at (f:=i64) (l:=text) k om om ?_|exact kQ|(refine bk ?_ ?_<;>intro _<;>try exact exo)|refine stq ?_|refine ac.by aB T0 [0,0,2,0,0,24,56,126,255,511] (by kernel_rfl) ?_|refine cp hC ?_|fail)
    all_goals(conv=>whnf)
    all_goals
     refine⟨k+1,_,⟨⟨om,om⟩,by rw[hms,<-h7]<;>omega⟩,om,?_⟩;exact lq [(0,_)] []
   .obtain rfl:m=eY d.wid text P[i]:=by rw[h7,show(k:Int)=P[i].hi by omega];rfl
    repeat' ((conv=>whnf);first|exact kQ|(refine bk ?_ ?_<;>intro _<;>try exact exo)|refine stq ?_|fail)
    (conv=>whnf)
    refine⟨i+1,_,⟨om,hs2⟩,om,?_⟩;exact lq [(0,_),(1,_)] []
  | cons x xs=>
   have hlen:(x::xs).length<=1001:=by omega
   repeat' ((conv=>whnf);first|exact kQ|(refine bk ?_ ?_<;>intro _<;>try exact exo)|refine stq ?_|fail)
   refine aG.by2 aB T0 (λ(k:Nat) (m:Int)=>⟨tmp 53 [(1,aC text),(2,.ptr 0 0),(6,ax P),(8,aP 1 1 (x::xs)),(9,i64 (i:Int)),(10,i64 m),(11,i64 (k:Int))],⟨2,bS 1 (λx=>[i64 x]) (x::xs)++[(0,.cells (dbC d) true)]⟩⟩)
    (λk m=>(P[i].lo<=(k:Int)/\(k:Int)<=P[i].hi)/\m=mxW d.wid (pce text P[i].lo k)) (λk _=>P[i].hi.toNat-k) P[i].lo.toNat 0 ⟨⟨om,om⟩,by rw[show((P[i].lo.toNat:Nat):Int)=P[i].lo by omega];simp[pce,mxW]⟩ ?_ ?_
   .exact lq [(0,_),(1,_)] []
   intro k m ⟨⟨h5,h6⟩,h7⟩;have hmr:=iq d.wid (pce text P[i].lo k);by_cases hk:(k:Int)<P[i].hi
   .have hkt:k<text.length:=om;have hC:=hcode text[k];have hcr:=fV d.wid text[k];have hms:=xN (p:=d.wid) (text:=text) (lo:=P[i].lo) (k:=k) om om hkt;generalize hcv:fB d.wid text[k]=cv at *;repeat' ((conv=>whnf);first|refine Idx.at (f:=i64) (l:=text) k om om ?_|exact kQ|(refine bk ?_ ?_<;>intro _<;>try exact exo)|refine stq ?_|refine ac.by aB T0 [0,0,2,0,0,24,56,126,255,511] (by kernel_rfl) ?_|refine cp hC ?_|fail)
    all_goals(conv=>whnf)
    all_goals
     refine⟨k+1,_,⟨⟨om,om⟩,by rw[hms,<-h7]<;>omega⟩,om,?_⟩;exact lq [(0,_),(1,_)] []
   .obtain rfl:m=eY d.wid text P[i]:=by rw[h7,show(k:Int)=P[i].hi by omega];rfl
    repeat' ((conv=>whnf);first|exact kQ|(refine bk ?_ ?_<;>intro _<;>try exact exo)|refine stq ?_|fail)
    (conv=>whnf)
    refine⟨i+1,_,⟨om,hs2⟩,om,?_⟩;exact lq [(0,_),(1,_)] []
 rw[kE om] at h4;rw[<-h4];cases o with
 | nil=>
  repeat' ((conv=>whnf);first|exact kQ|(refine bk ?_ ?_<;>intro _<;>try exact exo)|refine stq ?_)
  (conv=>whnf)
  exact⟨.tup (.cons (.same (ak P)) (.cons .nil .nil))⟩
 | cons x xs=>
  repeat' ((conv=>whnf);first|exact kQ|(refine bk ?_ ?_<;>intro _<;>try exact exo)|refine stq ?_)
  (conv=>whnf)
  exact⟨.tup (.cons (.same (ak P)) (.cons (lv (b:=x::xs) rfl rfl (aN _) rfl) .nil))⟩
theorem zb {d:Db}{text:List Int}{P:List Rng}(g:Good d) (hC:@Pu gtR Tryz.prog 73 [dbD d,aC text] (.tup [ax P,aC (P.map (eY d.wid text))])) (hl:P.length<=1000):@Pu gtR Tryz.prog 50 [dbD d,aC text] (.tup [i64 (cw d.wid text P),i64 0]):=by
 letI:=gtR;obtain⟨e,he,hi⟩:=eB g.ok g.sm;obtain rfl:=hi.2 g.va
 have hL:∀ x∈P.map (eY d.wid text),0<=x/\x<=2:=λx hx=>by
  obtain⟨r,_,rfl⟩:=List.mem_map.1 hx;exact jG _ _ _
 have hn:(P.map (eY d.wid text)).length=P.length:=by simp
 rw[<-xo];generalize P.map (eY d.wid text)=L at *;refine pv Tryz.func50 ?_;repeat' ((conv=>whnf);first|exact kQ|(refine bk ?_ ?_<;>intro _<;>try exact exo)|refine stq ?_|refine cp he ?_|refine cp hC ?_|fail)
 refine aG.by2 aB T0 (λ(k:Nat) (s:Int)=>⟨tmp 32 [(7,aC L),(8,i64 s),(9,i64 (k:Int))],⟨0,[]⟩⟩)
  (λk s=>k<=L.length/\s=nN (L.take k)) (λk _=>L.length-k) 0 0 ⟨om,rfl⟩ ?_ ?_
 .exact lq0
 intro k s ⟨h3,h4⟩;have hr:=rD (l:=L.take k) λx hx=>hL x (List.mem_of_mem_take hx)
 have htl:(L.take k).length=k:=by rw[List.length_take];omega
 by_cases hk:k<L.length
 .have hs2:=Cu hk;have hxr:=hL L[k] (kM _);repeat' ((conv=>whnf);first|exact kQ|(refine bk ?_ ?_<;>intro _<;>try exact exo)|refine stq ?_|fail)
  (conv=>whnf)
  refine⟨k+1,_,⟨om,by rw[hs2,<-h4]⟩,om,?_⟩;exact lq0
 .rw[kE om] at h4;subst h4;repeat' ((conv=>whnf);first|exact kQ|(refine bk ?_ ?_<;>intro _<;>try exact exo)|refine stq ?_|fail)
  (conv=>whnf)
  exact⟨Rd.eqd rfl rfl⟩
theorem Good.rcode {d:Db}(g:Good d) (c:Int):@Pu gtR Tryz.prog 102 [bY d.wid,i64 c] (i64 (fB d.wid c)):=@Ha gtR _ _ (g.ok.prop 1)
theorem Good.rcells {d:Db}(g:Good d){text:List Int}(hx:text.length<=900):@Pu gtR Tryz.prog 73 [dbD d,aC text] (.tup [ax (gP d text),aC ((gP d text).map (eY d.wid text))]):=
 Ej g.rcode (Ef (text:=text) (k:=1) g rk1 hx) (rL d text) hx
theorem Good.rwidth {d:Db}(g:Good d){text:List Int}(hx:text.length<=900):@Pu gtR Tryz.prog 50 [dbD d,aC text] (.tup [i64 (cw d.wid text (gP d text)),i64 0]):=
 zb g (g.rcells hx) (by have:=gD (rL d text);omega)
end
end Go.Proofs.YtlimkdlhldlolaaGreatDoor
