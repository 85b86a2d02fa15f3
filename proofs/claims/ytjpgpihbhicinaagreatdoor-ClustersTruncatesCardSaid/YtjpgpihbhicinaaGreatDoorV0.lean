/-
  Tables by numbers: when they are valid, and what they decide.
-/
import Derived.Test.YtjpgpihbhicinaaGreatDoorD1
import Derived.Test.YtjpgpihbhicinaaGreatDoorQ1
import Derived.Test.YtjpgpihbhicinaaGreatDoorP1
set_option linter.unusedSectionVars false
namespace Go.Proofs.YtjpgpihbhicinaaGreatDoor
section
open Go Go.Am
set_option maxRecDepth 100000
variable [GT]
def toI (l:List Nat):List Int:=l.map fun k:Nat=>(k:Int)
def cd (l:List (List Nat)):List (List Int):=l.map toI
theorem Bz (l:List Nat):dL l=aQ (toI l):=by simp[lst,toI,Function.comp_def]
theorem jN (l:List (List Nat)):bk l=cA (cd l):=by
 have:dL=fun l=>aQ (toI l):=funext Bz
 simp only[bk,this,cA];simp[lst,cd,Function.comp_def]
def tbl (cl:List Str) (acts:List Int) (LN LM RN RM:List (List Nat)):Tbl:=⟨cl,acts,⟨cd LN,cd LM⟩,⟨cd RN,cd RM⟩⟩
theorem A8 (cl:List Str) (acts:List Int) (LN LM RN RM:List (List Nat)):D.agg [strs cl,aQ acts,bk LN,bk LM,bk RN,bk RM]=iC (tbl cl acts LN LM RN RM):=by
 rw[jN,jN,jN,jN];rfl
def uK (r:Nat):Nat->List Nat->Bool
 | _,[]=>true
 | lo,x::l=>Nat.ble lo x&&Nat.blt x r&&uK r (x+1) l
theorem zQ {r:Nat}:∀ {m:List Nat}{lo:Nat},uK r lo m=true->∀ j (h:j<m.length),m[j]<r∧lo<=m[j]∧(j≠0->m[j-1]'(by omega)<m[j])
 | [],lo,hb,j,h=>by simp at h
 | x::l,lo,hb,j,h=>by
  simp only[uK,kC,Nat.ble_eq,Nat.blt_eq] at hb;obtain⟨⟨h1,h2⟩,h3⟩:=hb;cases j with
  | zero=>exact⟨h2,h1,fun e=>absurd rfl e⟩
  | succ j=>
   have hj:j<l.length:=by simpa using h
   have ih:=zQ h3 j hj;refine⟨by simpa using ih.1,by simp;omega,fun _=>?_⟩;cases j with
   | zero=>simp;omega
   | succ j=>simpa using ih.2.2 (by omega)
def sdB (n r:Nat) (N M:List (List Nat)):Bool:=
 Nat.ble n 1000&&Nat.ble 1 N.length&&Nat.ble N.length 400&&Nat.beq M.length N.length&&N.all (fun row=>Nat.beq row.length n&&row.all fun x=>Nat.blt x N.length)&&M.all fun m=>uK r 0 m&&Nat.ble m.length 1000
theorem FY {n r:Nat}{N M:List (List Nat)}(h:sdB n r N M=true):Sd ⟨cd N,cd M⟩ n r∧Atm.ok ⟨cd N,cd M⟩:=by
 simp only[sdB,kC,Nat.ble_eq,Nat.beq_eq,kL,Nat.blt_eq] at h;obtain⟨⟨⟨⟨⟨h0,h1⟩,h2⟩,h3⟩,h4⟩,h5⟩:=h;have hn:(cd N).length=N.length:=by simp[cd]
 have hm:(cd M).length=M.length:=by simp[cd]
 refine⟨⟨by simpa [hn] using h1,by simpa [hn] using h2,by rw[hm,hn,h3],fun i hi=>?_⟩,⟨by show(cd N).length<=_;omega,by show(cd M).length<=_;omega,fun i hi=>?_,fun i hi=>?_⟩⟩
 ·have hi':i<N.length:=by simpa [hn] using hi
  have e:(cd N)[i]'hi=toI N[i]:=by simp[cd]
  have r1:=h4 N[i] (kM hi');have hiM:i<M.length:=by omega
  have e2:(cd M).getD i []=toI M[i]:=by simp[cd,List.getD,hiM]
  have r2:=(h5 M[i] (kM hiM)).1;refine⟨by show(((cd N)[i]).length:Int)=n;rw[e];simp[toI,r1.1],fun j hj=>?_,fun j hj=>?_⟩
  ·have hj':j<N[i].length:=by
    have:((cd N)[i]'hi).length=N[i].length:=by rw[e];simp[toI]
    have hj2:j<((cd N)[i]'hi).length:=hj;omega
   have e3:((cd N)[i]'hi)[j]'hj=(N[i][j]:Int):=by simp[cd,toI]
   have:=r1.2 N[i][j] (kM hj')
   show 0<=((cd N)[i]'hi)[j]'hj∧((cd N)[i]'hi)[j]'hj<((cd N).length:Int);rw[e3,hn];omega
  ·have hj1:j<(toI M[i]).length:=by rw[<-e2];exact hj
   have hj':j<M[i].length:=by simpa [toI] using hj1
   have q:=zQ r2 j hj'
   have e3:∀ (m:List Int) (hm:m=toI M[i]) (h:j<m.length),m[j]=(M[i][j]:Int):=by
    intro m hm h;subst hm;simp[toI]
   have e4:=e3 _ e2 hj;refine⟨?_,by show _<(r:Int);rw[e4];omega⟩;rw[e4];unfold lc;split
   ·omega
   ·rename_i hj0;have q2:=q.2.2 hj0;rw[e2]
    have:(toI M[i]).getD (j-1) 0=(M[i][j-1]:Int):=by simp[toI,List.getD,show j-1<M[i].length from by omega]
    rw[this];omega
 ·have hi':i<N.length:=by simpa [hn] using hi
  have e:(cd N)[i]'hi=toI N[i]:=by simp[cd]
  have r1:=h4 N[i] (kM hi');show((cd N)[i]'hi).length<=_;rw[e]
  have:(toI N[i]).length=n:=by simp[toI,r1.1]
  omega
 ·have hi':i<M.length:=by simpa [hm] using hi
  have e:(cd M)[i]'hi=toI M[i]:=by simp[cd]
  have r1:=(h5 M[i] (kM hi')).2;show((cd M)[i]'hi).length<=_;rw[e]
  have:(toI M[i]).length=M[i].length:=by simp[toI]
  omega
def nvB (l:List Str):Bool:=Nat.ble 1 l.length&&Nat.ble l.length 60&&(List.range l.length).all fun i=>match l[i]? with|some s=>qM s&&Nat.ble s.length 32&&!AD s (l.take i)|none=>false
theorem nv_of {l:List Str}(h:nvB l=true):NV l:=by
 simp only[nvB,kC,Nat.ble_eq,kL] at h;refine⟨h.1.1,h.1.2,fun i hi=>?_⟩;have:=h.2 i (List.mem_range.2 hi)
 rw[List.getElem?_eq_getElem hi] at this;simp only[kC,Nat.ble_eq,Bool.not_eq_true',<-Bool.not_eq_true,qP] at this;have h2:=ni.1 this.1.1;exact⟨⟨⟨h2.2.1,this.1.2,h2.1⟩,h2.2.2⟩,this.2⟩
theorem tv_of {cl:List Str}{acts:List Int}{LN LM RN RM:List (List Nat)}(h1:NV cl) (h2:(Nat.ble acts.length 100&&acts.all fun a=>decide (1<=a∧a<=3))=true) (hL:sdB cl.length acts.length LN LM=true) (hR:sdB cl.length acts.length RN RM=true):TV (tbl cl acts LN LM RN RM)∧(tbl cl acts LN LM RN RM).ok:=by
 simp only[kC,Nat.ble_eq,kL,decide_eq_true_eq] at h2;have hl:=FY hL;have hr:=FY hR;refine⟨⟨h1,h2.1,fun i hi=>h2.2 _ (kM hi),hl.1,hr.1⟩,⟨?_,fun i hi=>?_,?_,hl.2,hr.2⟩⟩
 ·have:=h1.2.1
  show cl.length<=_;omega
 ·have:=(h1.2.2 i hi).1.1.2.1
  show cl[i].length<=_;omega
 ·show acts.length<=_;omega
def lR (x:Nat):List Nat->Bool
 | []=>false
 | y::l=>Nat.beq x y || lR x l
theorem ej {x:Nat}:∀ {l:List Nat},lR x l=true↔x∈l
 | []=>by simp[lR]
 | y::l=>by simp only[lR,kN,Nat.beq_eq,ej (l:=l),kH]
def fcN:List Nat->List Nat->Option Nat
 | [],_=>none
 | x::a,b=>bif lR x b then some x else fcN a b
theorem yG {x:Nat}{l:List Nat}:((x:Int)∈toI l)↔x∈l:=by
 simp only[toI,List.mem_map];exact⟨fun⟨y,hy,e⟩=>(show y=x by omega)▸hy,fun h=>⟨x,h,rfl⟩⟩
theorem Cg:∀ {a b:List Nat},fc (toI a) (toI b)=(fcN a b).map fun k:Nat=>(k:Int)
 | [],b=>rfl
 | x::a,b=>by
  have ih:=Cg (a:=a) (b:=b);unfold fc at ih ⊢;show List.find? _ ((x:Int)::toI a)=_;rw[List.find?_cons];by_cases h:x∈b
  ·have h1:lR x b=true:=ej.2 h;simp only[fcN,h1,cond_true,kF,yG,h,decide_true]
  ·have h1:lR x b=false:=by
    cases hb:lR x b with
    | false=>rfl
    | true=>exact absurd (ej.1 hb) h
   simp only[fcN,h1,cond_false,yG,h,decide_false];exact ih
theorem nT {l:List (List Nat)}{i:Nat}:(cd l).getD i []=toI (l.getD i []):=by
 simp only[cd,List.getD,List.getElem?_map];cases l[i]?<;>rfl
theorem A7 {l:List Nat}{i:Nat}:(toI l).getD i 0=((l.getD i 0:Nat):Int):=by
 simp only[toI,List.getD,List.getElem?_map];cases l[i]?<;>rfl
theorem ye {N:List (List Nat)}{s c:Nat}:nxt (cd N) (s:Int) (c:Int)=(((N.getD s []).getD c 0:Nat):Int):=by
 unfold nxt;rw[Int.toNat_natCast,Int.toNat_natCast,nT,A7]
section
variable {cl:List Str}{acts:List Int}{LN LM RN RM:List (List Nat)}
end
end
section
open Go Go.Am Classical
set_option maxRecDepth 100000
section
variable [GT]
theorem Ec {k:Int}:Pu Tryz.prog 54 [i64 k] (boo (decide (1<=k∧k<=4))):=by
 refine Pu.of_v aA T0 Tryz.func54 rfl rfl rfl ?_;repeat' ((conv=>whnf)<;>(first|refine sg ?_|exact kQ|(refine Br.mk ?_ ?_<;>intro _<;>try(exfalso;omega))|refine stq ?_))
 all_goals(conv=>whnf)
 all_goals first
  | exact aI.yes (by omega)
  | exact aI.no (by omega)
theorem rcl_c {l:List Int}{n:Int}(hx:l.length<=1000):Pu Tryz.prog 61 [aQ l,i64 n] (boo (decide (CL l n))):=by
 refine Pu.of_v aA T0 Tryz.func61 rfl rfl (by simp[aB,aJ,aF]) ?_;repeat' ((conv=>whnf)<;>(first|refine sg ?_|exact kQ|(refine Br.mk ?_ ?_<;>intro _<;>try(exfalso;omega))|refine stq ?_))
 refine aU.by aA T0 (fun k:Nat=>⟨tmp 25 [(0,aQ l),(1,i64 n),(5,i64 (k:Int))],⟨0,[]⟩⟩)
  (fun k=>k<=l.length∧∀ i (h:i<l.length),i<k->0<=l[i]∧l[i]<n) (fun k=>l.length-k) 0 ⟨by omega,fun _ _ h=>by omega⟩ ?_ ?_
 ·exact Lf.of2 [] [] enA bxA rfl rfl
 intro k ⟨h3,h4⟩;repeat' ((conv=>whnf)<;>(first|refine sg ?_|exact kQ|(refine Br.mk ?_ ?_<;>intro _<;>try(exfalso;omega))|refine stq ?_))
 all_goals(conv=>whnf)
 all_goals first
  | exact aI.no (fun hc=>by have:=hc k (by omega);omega)
  | exact aI.yes (cD (by omega) h4)
  | (refine⟨k+1,⟨by omega,ay (by omega) h4 ⟨by omega,by omega⟩⟩,by omega,?_⟩
     exact Lf.of2 [] [] enA bxA rfl rfl)
end
end
section
open Go Go.Am
set_option maxRecDepth 1000000
def t1:Tbl:=tbl cl1 (rs1.map (·.act)) LN1 LM1 RN1 RM1
theorem FW:@Pu gtR Tryz.prog 51 [i64 1] (iC t1):=by
 letI:=gtR;rw[t1,<-A8];exact Dx (.inl ⟨rfl,rfl⟩) EO (F:=3000) (by omega) (by decide) (by decide) (by decide) (by decide) comp1
theorem nv1:NV cl1:=@nv_of gtR _ (by kernel_rfl)
theorem tv1:TV t1∧t1.ok:=by
 letI:=gtR;exact tv_of (LN:=LN1) (LM:=LM1) (RN:=RN1) (RM:=RM1) nv1 (acts:=rs1.map (·.act)) (by kernel_rfl) (by kernel_rfl) (by kernel_rfl)
theorem Fc:@Pu gtR Tryz.prog 56 [i64 1] (strs cl1):=by
 letI:=gtR;exact Pu.of_t aA T0 jD rfl (by kernel_rfl:iy gtR Tryz.prog (iB Tryz.prog) spC 100 (.fn 56) [i64 1] .emp 0 (fun d1 h1 _=>fD h1 100000 d1 (strs cl1))=true)
end
end Go.Proofs.YtjpgpihbhicinaaGreatDoor
