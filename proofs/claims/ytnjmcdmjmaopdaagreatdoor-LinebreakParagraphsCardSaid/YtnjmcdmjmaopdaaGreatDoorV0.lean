/-
  Tables by numbers: when they are valid, and what they decide.
-/
import Derived.Test.YtnjmcdmjmaopdaaGreatDoorD1
import Derived.Test.YtnjmcdmjmaopdaaGreatDoorQ1
set_option linter.unusedSectionVars false
namespace Go.Proofs.YtnjmcdmjmaopdaaGreatDoor
section
open Go Go.Am
set_option maxRecDepth 100000
variable [GT]
def toI (l:List Nat):List Int:=l.map fun k:Nat=>(k:Int)
def cm (l:List (List Nat)):List (List Int):=l.map toI
theorem Ba (l:List Nat):dN l=aZ (toI l):=by simp[lst,toI,Function.comp_def]
theorem jH (l:List (List Nat)):bn l=bw (cm l):=by
 have:dN=fun l=>aZ (toI l):=funext Ba
 simp only[bn,this,bw];simp[lst,cm,Function.comp_def]
def tbl (cl:List Str) (acts:List Int) (LN LM RN RM:List (List Nat)):Tbl:=⟨cl,acts,⟨cm LN,cm LM⟩,⟨cm RN,cm RM⟩⟩
theorem Al (cl:List Str) (acts:List Int) (LN LM RN RM:List (List Nat)):D.agg [strs cl,aZ acts,bn LN,bn LM,bn RN,bn RM]=qr (tbl cl acts LN LM RN RM):=by
 rw[jH,jH,jH,jH];rfl
def tu (r:Nat):Nat→List Nat→Bool
 | _,[]=>true
 | lo,x::l=>Nat.ble lo x&&Nat.blt x r&&tu r (x+1) l
theorem yz {r:Nat}:∀ {m:List Nat}{lo:Nat},tu r lo m=true→∀ j (h:j<m.length),m[j]<r∧lo≤m[j]∧(j≠0→m[j-1]'(by omega)<m[j])
 | [],lo,hb,j,h=>by simp at h
 | x::l,lo,hb,j,h=>by
  simp only[tu,kC,Nat.ble_eq,Nat.blt_eq] at hb;obtain⟨⟨h1,h2⟩,h3⟩:=hb;cases j with
  | zero=>exact⟨h2,h1,fun e=>absurd rfl e⟩
  | succ j=>
   have hj:j<l.length:=by simpa using h
   have ih:=yz h3 j hj;refine⟨by simpa using ih.1,by simp;omega,fun _=>?_⟩;cases j with
   | zero=>simp;omega
   | succ j=>simpa using ih.2.2 (by omega)
def sdB (n r:Nat) (N M:List (List Nat)):Bool:=
 Nat.ble n 1000&&Nat.ble 1 N.length&&Nat.ble N.length 400&&Nat.beq M.length N.length&&N.all (fun row=>Nat.beq row.length n&&row.all fun x=>Nat.blt x N.length)&&M.all fun m=>tu r 0 m&&Nat.ble m.length 1000
theorem FH {n r:Nat}{N M:List (List Nat)}(h:sdB n r N M=true):Sd ⟨cm N,cm M⟩ n r∧Atm.ok ⟨cm N,cm M⟩:=by
 simp only[sdB,kC,Nat.ble_eq,Nat.beq_eq,kL,Nat.blt_eq] at h;obtain⟨⟨⟨⟨⟨h0,h1⟩,h2⟩,h3⟩,h4⟩,h5⟩:=h;have hn:(cm N).length=N.length:=by simp[cm]
 have hm:(cm M).length=M.length:=by simp[cm]
 refine⟨⟨by simpa [hn] using h1,by simpa [hn] using h2,by rw[hm,hn,h3],fun i hi=>?_⟩,⟨by show(cm N).length≤_;omega,by show(cm M).length≤_;omega,fun i hi=>?_,fun i hi=>?_⟩⟩
 ·have hi':i<N.length:=by simpa [hn] using hi
  have e:(cm N)[i]'hi=toI N[i]:=by simp[cm]
  have r1:=h4 N[i] (kM hi');have hiM:i<M.length:=by omega
  have e2:(cm M).getD i []=toI M[i]:=by simp[cm,List.getD,hiM]
  have r2:=(h5 M[i] (kM hiM)).1;refine⟨by show(((cm N)[i]).length:Int)=n;rw[e];simp[toI,r1.1],fun j hj=>?_,fun j hj=>?_⟩
  ·have hj':j<N[i].length:=by
    have:((cm N)[i]'hi).length=N[i].length:=by rw[e];simp[toI]
    have hj2:j<((cm N)[i]'hi).length:=hj;omega
   have e3:((cm N)[i]'hi)[j]'hj=(N[i][j]:Int):=by simp[cm,toI]
   have:=r1.2 N[i][j] (kM hj')
   show 0≤((cm N)[i]'hi)[j]'hj∧((cm N)[i]'hi)[j]'hj<((cm N).length:Int);rw[e3,hn];omega
  ·have hj1:j<(toI M[i]).length:=by rw[←e2];exact hj
   have hj':j<M[i].length:=by simpa [toI] using hj1
   have q:=yz r2 j hj'
   have e3:∀ (m:List Int) (hm:m=toI M[i]) (h:j<m.length),m[j]=(M[i][j]:Int):=by
    intro m hm h;subst hm;simp[toI]
   have e4:=e3 _ e2 hj;refine⟨?_,by show _<(r:Int);rw[e4];omega⟩;rw[e4];unfold lS;split
   ·omega
   ·rename_i hj0;have q2:=q.2.2 hj0;rw[e2]
    have:(toI M[i]).getD (j-1) 0=(M[i][j-1]:Int):=by simp[toI,List.getD,show j-1<M[i].length from by omega]
    rw[this];omega
 ·have hi':i<N.length:=by simpa [hn] using hi
  have e:(cm N)[i]'hi=toI N[i]:=by simp[cm]
  have r1:=h4 N[i] (kM hi');show((cm N)[i]'hi).length≤_;rw[e]
  have:(toI N[i]).length=n:=by simp[toI,r1.1]
  omega
 ·have hi':i<M.length:=by simpa [hm] using hi
  have e:(cm M)[i]'hi=toI M[i]:=by simp[cm]
  have r1:=(h5 M[i] (kM hi')).2;show((cm M)[i]'hi).length≤_;rw[e]
  have:(toI M[i]).length=M[i].length:=by simp[toI]
  omega
def nvB (l:List Str):Bool:=Nat.ble 1 l.length&&Nat.ble l.length 60&&(List.range l.length).all fun i=>match l[i]? with|some s=>p9 s&&Nat.ble s.length 32&&!zk s (l.take i)|none=>false
theorem nv_of {l:List Str}(h:nvB l=true):NV l:=by
 simp only[nvB,kC,Nat.ble_eq,kL] at h;refine⟨h.1.1,h.1.2,fun i hi=>?_⟩;have:=h.2 i (List.mem_range.2 hi)
 rw[List.getElem?_eq_getElem hi] at this;simp only[kC,Nat.ble_eq,Bool.not_eq_true',←Bool.not_eq_true,qC] at this;have h2:=nO.1 this.1.1;exact⟨⟨⟨h2.2.1,this.1.2,h2.1⟩,h2.2.2⟩,this.2⟩
theorem tv_of {cl:List Str}{acts:List Int}{LN LM RN RM:List (List Nat)}(h1:NV cl) (h2:(Nat.ble acts.length 100&&acts.all fun a=>decide (1≤a∧a≤3))=true) (hL:sdB cl.length acts.length LN LM=true) (hR:sdB cl.length acts.length RN RM=true):TV (tbl cl acts LN LM RN RM)∧(tbl cl acts LN LM RN RM).ok:=by
 simp only[kC,Nat.ble_eq,kL,decide_eq_true_eq] at h2;have hl:=FH hL;have hr:=FH hR;refine⟨⟨h1,h2.1,fun i hi=>h2.2 _ (kM hi),hl.1,hr.1⟩,⟨?_,fun i hi=>?_,?_,hl.2,hr.2⟩⟩
 ·have:=h1.2.1
  show cl.length≤_;omega
 ·have:=(h1.2.2 i hi).1.1.2.1
  show cl[i].length≤_;omega
 ·show acts.length≤_;omega
def lM (x:Nat):List Nat→Bool
 | []=>false
 | y::l=>Nat.beq x y || lM x l
theorem eh {x:Nat}:∀ {l:List Nat},lM x l=true↔x∈l
 | []=>by simp[lM]
 | y::l=>by simp only[lM,kN,Nat.beq_eq,eh (l:=l),kH]
def fcN:List Nat→List Nat→Option Nat
 | [],_=>none
 | x::a,b=>bif lM x b then some x else fcN a b
theorem xn {x:Nat}{l:List Nat}:((x:Int)∈toI l)↔x∈l:=by
 simp only[toI,List.mem_map];exact⟨fun⟨y,hy,e⟩=>(show y=x by omega)▸hy,fun h=>⟨x,h,rfl⟩⟩
theorem CN:∀ {a b:List Nat},fc (toI a) (toI b)=(fcN a b).map fun k:Nat=>(k:Int)
 | [],b=>rfl
 | x::a,b=>by
  have ih:=CN (a:=a) (b:=b);unfold fc at ih ⊢;show List.find? _ ((x:Int)::toI a)=_;rw[List.find?_cons];by_cases h:x∈b
  ·have h1:lM x b=true:=eh.2 h;simp only[fcN,h1,cond_true,kF,xn,h,decide_true]
  ·have h1:lM x b=false:=by
    cases hb:lM x b with
    | false=>rfl
    | true=>exact absurd (eh.1 hb) h
   simp only[fcN,h1,cond_false,xn,h,decide_false];exact ih
theorem m8 {l:List (List Nat)}{i:Nat}:(cm l).getD i []=toI (l.getD i []):=by
 simp only[cm,List.getD,List.getElem?_map];cases l[i]?<;>rfl
theorem Aj {l:List Nat}{i:Nat}:(toI l).getD i 0=((l.getD i 0:Nat):Int):=by
 simp only[toI,List.getD,List.getElem?_map];cases l[i]?<;>rfl
theorem yJ {N:List (List Nat)}{s c:Nat}:nxt (cm N) (s:Int) (c:Int)=(((N.getD s []).getD c 0:Nat):Int):=by
 unfold nxt;rw[Int.toNat_natCast,Int.toNat_natCast,m8,Aj]
section
variable {cl:List Str}{acts:List Int}{LN LM RN RM:List (List Nat)}
end
end
section
open Go Go.Am Classical
set_option maxRecDepth 100000
section
variable [GT]
theorem EL {k:Int}:Pu Tryz.prog 46 [i64 k] (boo (decide (1≤k∧k≤4))):=by
 refine Pu.of_v aA T0 Tryz.func46 rfl rfl rfl ?_;repeat' ((conv=>whnf)<;>(first|refine aB.go aA T0 ?_|exact kQ|(refine Br.mk (fun _=>?_) (fun _=>?_)<;>(try(exfalso;omega)))|refine stq ?_))
 all_goals(conv=>whnf)
 all_goals first
  | exact aH.yes (by omega)
  | exact aH.no (by omega)
theorem rcl_c {l:List Int}{n:Int}(hx:l.length≤1000):Pu Tryz.prog 52 [aZ l,i64 n] (boo (decide (CL l n))):=by
 refine Pu.of_v aA T0 Tryz.func52 rfl rfl (by simp[aD,aJ,aM]) ?_;repeat' ((conv=>whnf)<;>(first|refine aB.go aA T0 ?_|exact kQ|(refine Br.mk (fun _=>?_) (fun _=>?_)<;>(try(exfalso;omega)))|refine stq ?_))
 refine aU.by aA T0 (fun k:Nat=>⟨tmp 25 [(0,aZ l),(1,i64 n),(5,i64 (k:Int))],⟨0,[]⟩⟩)
  (fun k=>k≤l.length∧∀ i (h:i<l.length),i<k→0≤l[i]∧l[i]<n) (fun k=>l.length-k) 0 ⟨by omega,fun _ _ h=>by omega⟩ ?_ ?_
 ·exact Lf.of2 [] [] enA bxA rfl rfl
 intro k ⟨h3,h4⟩;repeat' ((conv=>whnf)<;>(first|refine aB.go aA T0 ?_|exact kQ|(refine Br.mk (fun _=>?_) (fun _=>?_)<;>(try(exfalso;omega)))|refine stq ?_))
 all_goals(conv=>whnf)
 all_goals first
  | exact aH.no (fun hc=>by have:=hc k (by omega);omega)
  | exact aH.yes (cA (by omega) h4)
  | (refine⟨k+1,⟨by omega,ay (by omega) h4 ⟨by omega,by omega⟩⟩,by omega,?_⟩
     exact Lf.of2 [] [] enA bxA rfl rfl)
end
end
end Go.Proofs.YtnjmcdmjmaopdaaGreatDoor
