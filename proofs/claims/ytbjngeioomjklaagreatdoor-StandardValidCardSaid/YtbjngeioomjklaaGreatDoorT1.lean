/-
  The automata of a kind, reckoned.
-/
import Derived.Test.YtbjngeioomjklaaGreatDoorP1
import Derived.Test.YtbjngeioomjklaaGreatDoorB0
import Derived.Test.YtbjngeioomjklaaGreatDoorD1
import Derived.Test.YtbjngeioomjklaaGreatDoorQ1
namespace Go.Proofs.YtbjngeioomjklaaGreatDoor
open Go Go.Am
set_option maxRecDepth 1000000
def mL1:Mch:=⟨[[1,2,1,1,1,1,1,1,1,1,1,1,1,1,1],rq 15 1,rq 15 2,[4,5,5,5,4,4,4,4,4,4,4,4,4,4,4],rq 15 4,rq 15 5,rq 15 6,[8,8,8,8,8,8,8,8,8,9,8,8,8,8,8],rq 15 8,rq 15 9,[11,11,11,11,11,11,11,11,11,11,12,11,12,11,11],rq 15 11,rq 15 12,[14,14,14,14,14,14,14,14,14,14,14,15,14,15,14],rq 15 14,rq 15 15,rq 15 17,rq 15 17,rq 15 19,rq 15 19,[21,21,21,21,21,21,21,22,21,21,21,21,21,21,21],rq 15 21,rq 15 22,[24,24,24,24,24,25,24,24,24,24,24,24,24,24,24],rq 15 24,[24,24,24,24,25,24,24,24,24,24,24,24,24,24,26],rq 15 26,[28,28,28,28,28,28,29,28,28,28,28,28,28,28,28],rq 15 28,[28,28,28,28,28,28,30,28,28,28,28,28,28,28,28],[28,28,28,28,28,28,29,28,28,28,28,28,28,28,28],[32,32,32,32,32,32,33,32,32,32,32,32,32,32,32],rq 15 32,[34,34,34,34,34,34,35,34,34,34,34,34,34,34,34],rq 15 34,[32,32,32,32,32,32,33,32,32,32,32,32,32,32,32],rq 15 36],[false,false,true,false,false,true,true,false,false,true,false,false,true,false,false,true,false,true,false,true,false,false,true,false,false,false,true,false,false,true,false,false,false,false,true,false,true],[0,3,6,7,10,13,16,18,20,23,27,31,36]⟩
def mR1:Mch:=⟨[[1,1,2,1,1,1,1,1,1,1,1,1,1,1,1],rq 15 1,rq 15 2,rq 15 3,[5,6,6,6,5,5,5,5,5,5,5,5,5,5,5],rq 15 5,rq 15 6,[8,8,8,8,8,8,8,8,8,9,9,8,9,9,8],rq 15 8,rq 15 9,[11,11,11,11,11,11,11,11,11,11,12,12,11,11,11],rq 15 11,rq 15 12,[14,14,14,14,14,14,14,14,14,14,14,15,14,14,14],rq 15 14,rq 15 15,[17,17,17,17,18,18,17,17,17,17,17,17,17,17,17],rq 15 17,rq 15 18,[20,20,20,20,20,20,20,20,21,20,20,20,20,20,20],rq 15 20,rq 15 21,rq 15 23,rq 15 23,[25,25,25,25,25,25,25,25,25,25,25,25,25,25,26],rq 15 25,rq 15 26,[28,28,28,28,28,28,29,28,28,28,28,28,28,28,28],rq 15 28,rq 15 29,[31,31,31,31,31,31,32,31,31,31,31,31,31,31,31],rq 15 31,rq 15 32,rq 15 33],[false,false,true,true,false,false,true,false,false,true,false,false,true,false,false,true,false,false,true,false,false,true,false,true,false,false,true,false,false,true,false,false,true,true],[0,3,4,7,10,13,16,19,22,24,27,30,33]⟩
def LN1:List (List Nat):=[[1,2,3,3,1,1,4,5,1,6,7,8,7,8,9],[1,2,3,3,1,1,10,5,1,6,7,8,7,8,9],[1,2,3,3,1,1,10,5,1,6,7,8,7,8,9],[1,2,3,3,1,1,10,5,1,6,7,8,7,8,9],[1,2,3,3,1,1,11,5,1,6,7,8,7,8,9],[1,2,3,3,1,1,10,5,1,6,7,8,7,8,9],[1,2,3,3,1,1,10,5,1,6,7,8,7,8,9],[1,2,3,3,1,1,10,5,1,6,7,8,7,8,9],[1,2,3,3,1,1,10,5,1,6,7,8,7,8,9],[1,2,3,3,9,12,10,5,1,6,7,8,7,8,9],[1,2,3,3,1,1,1,5,1,6,7,8,7,8,9],[1,2,3,3,1,1,4,5,1,6,7,8,7,8,9],[1,2,3,3,1,1,10,5,1,6,7,8,7,8,9]]
def LM1:List (List Nat):=[[2,12],[2,6,7,12],[0,1,2,6,7,12],[1,2,6,7,12],[2,6,7,10,12],[2,6,7,8,12],[2,3,6,7,12],[2,4,6,7,12],[2,5,6,7,12],[2,6,7,12],[2,6,7,11,12],[2,6,7,12],[2,6,7,9,12]]
def RN1:List (List Nat):=[[1,2,3,2,4,4,5,1,6,7,8,9,7,7,10],[1,2,3,2,4,4,5,1,6,7,8,9,7,7,10],[1,2,3,2,4,4,5,1,6,7,8,9,7,7,10],[1,2,3,2,4,4,5,1,6,7,8,9,7,7,10],[1,2,3,2,4,4,5,1,6,7,8,9,7,7,10],[1,2,3,2,4,4,5,1,6,7,8,9,7,7,10],[1,2,3,2,4,4,5,1,6,7,8,9,7,7,10],[1,2,3,2,4,4,5,1,6,7,8,9,7,7,10],[1,2,3,2,4,4,5,1,6,7,8,9,7,7,10],[1,2,3,2,4,4,5,1,6,7,8,9,7,7,10],[1,2,3,2,4,4,5,1,6,7,8,9,7,7,10]]
def RM1:List (List Nat):=[[1,12],[1,8,12],[1,2,8,12],[0,1,2,8,12],[1,6,8,12],[1,8,10,11,12],[1,7,8,12],[1,3,8,12],[1,3,4,8,12],[1,4,5,8,12],[1,8,9,12]]
theorem fl1:foldM true 3000 15 15 (rs1.map (·.left)) ⟨[],[],[]⟩=some mL1:=by kernel_rfl
theorem fr1:foldM false 3000 15 (15+1) (rs1.map (·.right)) ⟨[],[],[]⟩=some mR1:=by kernel_rfl
def cL1:List (List Nat):=[[1,1,2,4,4,5,6,8,8,9,11,11,12,14,14,15,17,17,19,19,21,21,22,24,24,24,26,28,28,28,28,32,32,34,34,32,36],[2,1,2,5,4,5,6,8,8,9,11,11,12,14,14,15,17,17,19,19,21,21,22,24,24,24,26,28,28,28,28,32,32,34,34,32,36],[1,1,2,5,4,5,6,8,8,9,11,11,12,14,14,15,17,17,19,19,21,21,22,24,24,24,26,28,28,28,28,32,32,34,34,32,36],[1,1,2,5,4,5,6,8,8,9,11,11,12,14,14,15,17,17,19,19,21,21,22,24,24,24,26,28,28,28,28,32,32,34,34,32,36],[1,1,2,4,4,5,6,8,8,9,11,11,12,14,14,15,17,17,19,19,21,21,22,24,24,25,26,28,28,28,28,32,32,34,34,32,36],[1,1,2,4,4,5,6,8,8,9,11,11,12,14,14,15,17,17,19,19,21,21,22,25,24,24,26,28,28,28,28,32,32,34,34,32,36],[1,1,2,4,4,5,6,8,8,9,11,11,12,14,14,15,17,17,19,19,21,21,22,24,24,24,26,29,28,30,29,33,32,35,34,33,36],[1,1,2,4,4,5,6,8,8,9,11,11,12,14,14,15,17,17,19,19,22,21,22,24,24,24,26,28,28,28,28,32,32,34,34,32,36],[1,1,2,4,4,5,6,8,8,9,11,11,12,14,14,15,17,17,19,19,21,21,22,24,24,24,26,28,28,28,28,32,32,34,34,32,36],[1,1,2,4,4,5,6,9,8,9,11,11,12,14,14,15,17,17,19,19,21,21,22,24,24,24,26,28,28,28,28,32,32,34,34,32,36],[1,1,2,4,4,5,6,8,8,9,12,11,12,14,14,15,17,17,19,19,21,21,22,24,24,24,26,28,28,28,28,32,32,34,34,32,36],[1,1,2,4,4,5,6,8,8,9,11,11,12,15,14,15,17,17,19,19,21,21,22,24,24,24,26,28,28,28,28,32,32,34,34,32,36],[1,1,2,4,4,5,6,8,8,9,12,11,12,14,14,15,17,17,19,19,21,21,22,24,24,24,26,28,28,28,28,32,32,34,34,32,36],[1,1,2,4,4,5,6,8,8,9,11,11,12,15,14,15,17,17,19,19,21,21,22,24,24,24,26,28,28,28,28,32,32,34,34,32,36],[1,1,2,4,4,5,6,8,8,9,11,11,12,14,14,15,17,17,19,19,21,21,22,24,24,26,26,28,28,28,28,32,32,34,34,32,36]]
theorem al1:autB 15 mL1.nx mL1.ro 3000 0 [mL1.hi] [] []=some (LN1,LM1):=aut_of (cols:=cL1) (x:=86508212836) (by kernel_rfl) (by kernel_rfl) (by kernel_rfl) (by kernel_rfl)
def cR1:List (List Nat):=[[1,1,2,3,5,5,6,8,8,9,11,11,12,14,14,15,17,17,18,20,20,21,23,23,25,25,26,28,28,29,31,31,32,33],[1,1,2,3,6,5,6,8,8,9,11,11,12,14,14,15,17,17,18,20,20,21,23,23,25,25,26,28,28,29,31,31,32,33],[2,1,2,3,6,5,6,8,8,9,11,11,12,14,14,15,17,17,18,20,20,21,23,23,25,25,26,28,28,29,31,31,32,33],[1,1,2,3,6,5,6,8,8,9,11,11,12,14,14,15,17,17,18,20,20,21,23,23,25,25,26,28,28,29,31,31,32,33],[1,1,2,3,5,5,6,8,8,9,11,11,12,14,14,15,18,17,18,20,20,21,23,23,25,25,26,28,28,29,31,31,32,33],[1,1,2,3,5,5,6,8,8,9,11,11,12,14,14,15,18,17,18,20,20,21,23,23,25,25,26,28,28,29,31,31,32,33],[1,1,2,3,5,5,6,8,8,9,11,11,12,14,14,15,17,17,18,20,20,21,23,23,25,25,26,29,28,29,32,31,32,33],[1,1,2,3,5,5,6,8,8,9,11,11,12,14,14,15,17,17,18,20,20,21,23,23,25,25,26,28,28,29,31,31,32,33],[1,1,2,3,5,5,6,8,8,9,11,11,12,14,14,15,17,17,18,21,20,21,23,23,25,25,26,28,28,29,31,31,32,33],[1,1,2,3,5,5,6,9,8,9,11,11,12,14,14,15,17,17,18,20,20,21,23,23,25,25,26,28,28,29,31,31,32,33],[1,1,2,3,5,5,6,9,8,9,12,11,12,14,14,15,17,17,18,20,20,21,23,23,25,25,26,28,28,29,31,31,32,33],[1,1,2,3,5,5,6,8,8,9,12,11,12,15,14,15,17,17,18,20,20,21,23,23,25,25,26,28,28,29,31,31,32,33],[1,1,2,3,5,5,6,9,8,9,11,11,12,14,14,15,17,17,18,20,20,21,23,23,25,25,26,28,28,29,31,31,32,33],[1,1,2,3,5,5,6,9,8,9,11,11,12,14,14,15,17,17,18,20,20,21,23,23,25,25,26,28,28,29,31,31,32,33],[1,1,2,3,5,5,6,8,8,9,11,11,12,14,14,15,17,17,18,20,20,21,23,23,26,25,26,28,28,29,31,31,32,33]]
theorem ar1:autB 15 mR1.nx mR1.ro 3000 0 [mR1.hi] [] []=some (RN1,RM1):=aut_of (cols:=cR1) (x:=13499667020) (by kernel_rfl) (by kernel_rfl) (by kernel_rfl) (by kernel_rfl)
theorem comp1:comp 3000 15 rs1=some ((LN1,LM1),(RN1,RM1)):=comp_of fl1 fr1 (by kernel_rfl) (by kernel_rfl) al1 ar1
end Go.Proofs.YtbjngeioomjklaaGreatDoor
namespace Go.Proofs.YtbjngeioomjklaaGreatDoor
open Go Go.Am
set_option maxRecDepth 100000
set_option linter.unusedSectionVars false
abbrev tabD (cl:List Str) (acts:List Int) (a b c d:List (List Nat)):D:=.agg [strs cl,ints acts,natss a,natss b,natss c,natss d]
theorem table1:@Pu gtR Tryz.prog 19 [i64 1] (tabD cl1 (rs1.map (·.act)) LN1 LM1 RN1 RM1):=
 table_c (.inl ⟨rfl,rfl⟩) parses1 (F:=3000) (by omega) (by decide) (by decide) (by decide) (by decide) comp1
noncomputable def spT (g:FuncId) (ds:List D):Option D:=
 if Nat.beq g 19=true then
  match ds with
  | [.v (.int .i64 (.ofNat 1))]=>some (tabD cl1 (rs1.map (·.act)) LN1 LM1 RN1 RM1)
  | _=>none
 else spC g ds
theorem spT_ok:@SpOk gtR Tryz.prog spT:=fun g ds d h=>by
 unfold spT at h
 split at h
 ·rename_i hg
  obtain rfl:=Nat.eq_of_beq_eq_true hg
  split at h
  ·injection h with h;subst h
   exact table1
  ·cases h
 ·exact spC_ok g ds d h
theorem awake_c:@Pu gtR Tryz.prog 18 [] (boo true):=by
 letI:=gtR
 exact Pu.of_x (sp:=spT) mixed T0 spT_ok (f:=1000) rfl (by kernel_rfl)
end Go.Proofs.YtbjngeioomjklaaGreatDoor
namespace Go.Proofs.YtbjngeioomjklaaGreatDoor
open Go Go.Am
set_option maxRecDepth 100000
set_option linter.unusedSectionVars false
variable [GT]
def toI (l:List Nat):List Int:=l.map fun k:Nat=>(k:Int)
def toII (l:List (List Nat)):List (List Int):=l.map toI
theorem nats_toI (l:List Nat):nats l=ints (toI l):=by simp [lst,toI,Function.comp_def]
theorem natss_toII (l:List (List Nat)):natss l=intss (toII l):=by
 have:nats=fun l=>ints (toI l):=funext nats_toI
 simp only [natss,this,intss]
 simp [lst,toII,Function.comp_def]
def tbl (cl:List Str) (acts:List Int) (LN LM RN RM:List (List Nat)):Tbl:=⟨cl,acts,⟨toII LN,toII LM⟩,⟨toII RN,toII RM⟩⟩
theorem tbl_D (cl:List Str) (acts:List Int) (LN LM RN RM:List (List Nat)):D.agg [strs cl,ints acts,natss LN,natss LM,natss RN,natss RM]=tblD (tbl cl acts LN LM RN RM):=by
 rw [natss_toII,natss_toII,natss_toII,natss_toII];rfl
def ascB (r:Nat):Nat→List Nat→Bool
 | _,[]=>true
 | lo,x :: l=>Nat.ble lo x && Nat.blt x r && ascB r (x+1) l
theorem ascB_ok {r:Nat}:∀ {m:List Nat}{lo:Nat},ascB r lo m=true→∀ j (h:j < m.length),m[j] < r∧lo≤m[j]∧(j≠0→m[j - 1]'(by omega) < m[j])
 | [],lo,hb,j,h=>by simp at h
 | x :: l,lo,hb,j,h=>by
  simp only [ascB,Bool.and_eq_true,Nat.ble_eq,Nat.blt_eq] at hb
  obtain ⟨⟨h1,h2⟩,h3⟩:=hb
  cases j with
  | zero=>exact ⟨h2,h1,fun e=>absurd rfl e⟩
  | succ j=>
   have hj:j < l.length:=by simpa using h
   have ih:=ascB_ok h3 j hj
   refine ⟨by simpa using ih.1,by simp;omega,fun _=>?_⟩
   cases j with
   | zero=>simp;omega
   | succ j=>simpa using ih.2.2 (by omega)
def sdB (n r:Nat) (N M:List (List Nat)):Bool:=
 Nat.ble n 1000 && Nat.ble 1 N.length && Nat.ble N.length 400 && Nat.beq M.length N.length && N.all (fun row=>Nat.beq row.length n && row.all fun x=>Nat.blt x N.length) && M.all fun m=>ascB r 0 m && Nat.ble m.length 1000
theorem sd_of {n r:Nat}{N M:List (List Nat)}(h:sdB n r N M=true):Sd ⟨toII N,toII M⟩ n r∧Atm.ok ⟨toII N,toII M⟩:=by
 simp only [sdB,Bool.and_eq_true,Nat.ble_eq,Nat.beq_eq,List.all_eq_true,Nat.blt_eq] at h
 obtain ⟨⟨⟨⟨⟨h0,h1⟩,h2⟩,h3⟩,h4⟩,h5⟩:=h
 have hn:(toII N).length=N.length:=by simp [toII]
 have hm:(toII M).length=M.length:=by simp [toII]
 refine ⟨⟨by simpa [hn] using h1,by simpa [hn] using h2,by rw [hm,hn,h3],fun i hi=>?_⟩,⟨by show (toII N).length≤_;omega,by show (toII M).length≤_;omega,fun i hi=>?_,fun i hi=>?_⟩⟩
 ·have hi':i < N.length:=by simpa [hn] using hi
  have e:(toII N)[i]'hi=toI N[i]:=by simp [toII]
  have r1:=h4 N[i] (List.getElem_mem hi')
  have hiM:i < M.length:=by omega
  have e2:(toII M).getD i []=toI M[i]:=by simp [toII,List.getD,hiM]
  have r2:=(h5 M[i] (List.getElem_mem hiM)).1
  refine ⟨by show (((toII N)[i]).length:Int)=n;rw [e];simp [toI,r1.1],fun j hj=>?_,fun j hj=>?_⟩
  ·have hj':j < N[i].length:=by
    have:((toII N)[i]'hi).length=N[i].length:=by rw [e];simp [toI]
    have hj2:j < ((toII N)[i]'hi).length:=hj
    omega
   have e3:((toII N)[i]'hi)[j]'hj=(N[i][j]:Int):=by simp [toII,toI]
   have:=r1.2 N[i][j] (List.getElem_mem hj')
   show 0≤((toII N)[i]'hi)[j]'hj∧((toII N)[i]'hi)[j]'hj < ((toII N).length:Int)
   rw [e3,hn]
   omega
  ·have hj1:j < (toI M[i]).length:=by rw [← e2];exact hj
   have hj':j < M[i].length:=by simpa [toI] using hj1
   have q:=ascB_ok r2 j hj'
   have e3:∀ (m:List Int) (hm:m=toI M[i]) (h:j < m.length),m[j]=(M[i][j]:Int):=by
    intro m hm h;subst hm;simp [toI]
   have e4:=e3 _ e2 hj
   refine ⟨?_,by show _ < (r:Int);rw [e4];omega⟩
   rw [e4]
   unfold lastM
   split
   ·omega
   ·rename_i hj0
    have q2:=q.2.2 hj0
    rw [e2]
    have:(toI M[i]).getD (j - 1) 0=(M[i][j - 1]:Int):=by simp [toI,List.getD,show j - 1 < M[i].length from by omega]
    rw [this]
    omega
 ·have hi':i < N.length:=by simpa [hn] using hi
  have e:(toII N)[i]'hi=toI N[i]:=by simp [toII]
  have r1:=h4 N[i] (List.getElem_mem hi')
  show ((toII N)[i]'hi).length≤_
  rw [e]
  have:(toI N[i]).length=n:=by simp [toI,r1.1]
  omega
 ·have hi':i < M.length:=by simpa [hm] using hi
  have e:(toII M)[i]'hi=toI M[i]:=by simp [toII]
  have r1:=(h5 M[i] (List.getElem_mem hi')).2
  show ((toII M)[i]'hi).length≤_
  rw [e]
  have:(toI M[i]).length=M[i].length:=by simp [toI]
  omega
def nvB (l:List Str):Bool:=Nat.ble 1 l.length && Nat.ble l.length 60 && (List.range l.length).all fun i=>match l[i]? with|some s=>nameB s && Nat.ble s.length 32 && !memB s (l.take i)|none=>false
theorem nv_of {l:List Str}(h:nvB l=true):NV l:=by
 simp only [nvB,Bool.and_eq_true,Nat.ble_eq,List.all_eq_true] at h
 refine ⟨h.1.1,h.1.2,fun i hi=>?_⟩
 have:=h.2 i (List.mem_range.2 hi)
 rw [List.getElem?_eq_getElem hi] at this
 simp only [Bool.and_eq_true,Nat.ble_eq,Bool.not_eq_true',← Bool.not_eq_true,memB_iff] at this
 have h2:=nameB_iff.1 this.1.1
 exact ⟨⟨⟨h2.2.1,this.1.2,h2.1⟩,h2.2.2⟩,this.2⟩
theorem tv_of {cl:List Str}{acts:List Int}{LN LM RN RM:List (List Nat)}(h1:NV cl) (h2:(Nat.ble acts.length 100 && acts.all fun a=>decide (1≤a∧a≤3))=true) (hL:sdB cl.length acts.length LN LM=true) (hR:sdB cl.length acts.length RN RM=true):TV (tbl cl acts LN LM RN RM)∧(tbl cl acts LN LM RN RM).ok:=by
 simp only [Bool.and_eq_true,Nat.ble_eq,List.all_eq_true,decide_eq_true_eq] at h2
 have hl:=sd_of hL
 have hr:=sd_of hR
 refine ⟨⟨h1,h2.1,fun i hi=>h2.2 _ (List.getElem_mem hi),hl.1,hr.1⟩,⟨?_,fun i hi=>?_,?_,hl.2,hr.2⟩⟩
 ·have:=h1.2.1
  show cl.length≤_
  omega
 ·have:=(h1.2.2 i hi).1.1.2.1
  show cl[i].length≤_
  omega
 ·show acts.length≤_
  omega
def memN (x:Nat):List Nat→Bool
 | []=>false
 | y :: l=>Nat.beq x y || memN x l
theorem memN_iff {x:Nat}:∀ {l:List Nat},memN x l=true↔x ∈ l
 | []=>by simp [memN]
 | y :: l=>by simp only [memN,Bool.or_eq_true,Nat.beq_eq,memN_iff (l:=l),List.mem_cons]
def fcN:List Nat→List Nat→Option Nat
 | [],_=>none
 | x :: a,b=>bif memN x b then some x else fcN a b
theorem toI_mem {x:Nat}{l:List Nat}:((x:Int) ∈ toI l)↔x ∈ l:=by
 simp only [toI,List.mem_map]
 exact ⟨fun ⟨y,hy,e⟩=>(show y=x by omega) ▸ hy,fun h=>⟨x,h,rfl⟩⟩
theorem fc_nat:∀ {a b:List Nat},fc (toI a) (toI b)=(fcN a b).map fun k:Nat=>(k:Int)
 | [],b=>rfl
 | x :: a,b=>by
  have ih:=fc_nat (a:=a) (b:=b)
  unfold fc at ih ⊢
  show List.find? _ ((x:Int) :: toI a)=_
  rw [List.find?_cons]
  by_cases h:x ∈ b
  ·have h1:memN x b=true:=memN_iff.2 h
   simp only [fcN,h1,cond_true,Option.map_some,toI_mem,h,decide_true]
  ·have h1:memN x b=false:=by
    cases hb:memN x b with
    | false=>rfl
    | true=>exact absurd (memN_iff.1 hb) h
   simp only [fcN,h1,cond_false,toI_mem,h,decide_false]
   exact ih
def actN (acts:List Int) (LM RM:List (List Nat)) (x y:Nat):Int:=
 match fcN (LM.getD x []) (RM.getD y []) with
 | some r=>acts.getD r 0
 | none=>2
theorem toII_getD {l:List (List Nat)}{i:Nat}:(toII l).getD i []=toI (l.getD i []):=by
 simp only [toII,List.getD,List.getElem?_map]
 cases l[i]? <;> rfl
theorem toI_getD {l:List Nat}{i:Nat}:(toI l).getD i 0=((l.getD i 0:Nat):Int):=by
 simp only [toI,List.getD,List.getElem?_map]
 cases l[i]? <;> rfl
theorem nxt_nat {N:List (List Nat)}{s c:Nat}:nxt (toII N) (s:Int) (c:Int)=(((N.getD s []).getD c 0:Nat):Int):=by
 unfold nxt
 rw [Int.toNat_natCast,Int.toNat_natCast,toII_getD,toI_getD]
def dd:List Nat→List Nat
 | []=>[]
 | x :: l=>bif memN x (dd l) then dd l else x :: dd l
def colD (N:List (List Nat)) (c:Nat):List Nat:=dd (N.map fun row=>row.getD c 0)
section
variable {cl:List Str}{acts:List Int}{LN LM RN RM:List (List Nat)}
def allP (xs ys:List Nat) (p:Nat→Nat→Bool):Bool:=xs.all fun x=>ys.all fun y=>p x y
def pairB (acts:List Int) (LN LM RN RM:List (List Nat)) (cr lf:Nat):Bool:=
 allP (colD LN cr) (colD RN lf) (fun x y=>ibe (actN acts LM RM x y) 1) && allP (colD LN lf) (List.range RN.length) (fun x y=>!ibe (actN acts LM RM x y) 1)
end
end Go.Proofs.YtbjngeioomjklaaGreatDoor
namespace Go.Proofs.YtbjngeioomjklaaGreatDoor
open Go Go.Am Classical
set_option maxRecDepth 100000
set_option linter.unusedSectionVars false
section
variable [GT]
theorem known_c {k:Int}:Pu Tryz.prog 20 [i64 k] (boo (decide (1≤k∧k≤4))):=by
 refine Pu.of_v mixed T0 Tryz.func20 rfl rfl rfl ?_
 repeat' ((conv=>whnf) <;> (first|refine SeqV.go mixed T0 ?_|exact True.intro|(refine Br.mk (fun _=>?_) (fun _=>?_) <;> (try (exfalso;omega)))|refine stq ?_))
 all_goals (conv=>whnf)
 all_goals first
  | exact RetV.yes (by omega)
  | exact RetV.no (by omega)
theorem rcl_c {l:List Int}{n:Int}(hx:l.length≤1000):Pu Tryz.prog 27 [ints l,i64 n] (boo (decide (CL l n))):=by
 refine Pu.of_v mixed T0 Tryz.func27 rfl rfl (by simp [noBoxs,noBox,noBox_ints]) ?_
 repeat' ((conv=>whnf) <;> (first|refine SeqV.go mixed T0 ?_|exact True.intro|(refine Br.mk (fun _=>?_) (fun _=>?_) <;> (try (exfalso;omega)))|refine stq ?_))
 refine LoopV.by mixed T0 (fun k:Nat=>⟨tmp 25 [(0,ints l),(1,i64 n),(5,i64 (k:Int))],⟨0,[]⟩⟩)
  (fun k=>k≤l.length∧∀ i (h:i < l.length),i < k→0≤l[i]∧l[i] < n) (fun k=>l.length - k) 0 ⟨by omega,fun _ _ h=>by omega⟩ ?_ ?_
 ·exact Lf.of2 [] [] enA bxA rfl rfl
 intro k ⟨h3,h4⟩
 repeat' ((conv=>whnf) <;> (first|refine SeqV.go mixed T0 ?_|exact True.intro|(refine Br.mk (fun _=>?_) (fun _=>?_) <;> (try (exfalso;omega)))|refine stq ?_))
 all_goals (conv=>whnf)
 all_goals first
  | exact RetV.no (fun hc=>by have:=hc k (by omega);omega)
  | exact RetV.yes (up_all (by omega) h4)
  | (refine ⟨k+1,⟨by omega,up_succ (by omega) h4 ⟨by omega,by omega⟩⟩,by omega,?_⟩
     exact Lf.of2 [] [] enA bxA rfl rfl)
end
theorem rcls_x {k:Int}{cl:List Str}(h:callT gtR Tryz.prog (tiOf Tryz.prog) spC 100 (.fn 12) [i64 k] .emp 0 (fun d1 h1 _=>retB h1 100000 d1 (strs cl))=true):@Pu gtR Tryz.prog 12 [i64 k] (strs cl):=by
 letI:=gtR
 exact Pu.of_t mixed T0 spC_ok rfl h
theorem class_x {k:Int}{s:Str}{n:Int}(h:callT gtR Tryz.prog (tiOf Tryz.prog) spC 100 (.fn 28) [i64 k,.str s] .emp 0 (fun d1 h1 _=>retB h1 100000 d1 (i64 n))=true):@Pu gtR Tryz.prog 28 [i64 k,.str s] (i64 n):=by
 letI:=gtR
 exact Pu.of_t mixed T0 spC_ok rfl h
structure Kd4 (k:Int) (cl:List Str) (acts:List Int) (LN LM RN RM:List (List Nat)) (cr lf:Nat):Prop where
 tab:@Pu gtR Tryz.prog 19 [i64 k] (tblD (tbl cl acts LN LM RN RM))
 tv:TV (tbl cl acts LN LM RN RM)
 ok:(tbl cl acts LN LM RN RM).ok
 cls:@Pu gtR Tryz.prog 12 [i64 k] (strs cl)
 crc:@Pu gtR Tryz.prog 28 [i64 k,.str [67,82]] (i64 (cr:Nat))
 lfc:@Pu gtR Tryz.prog 28 [i64 k,.str [76,70]] (i64 (lf:Nat))
 pair:pairB acts LN LM RN RM cr lf=true
end Go.Proofs.YtbjngeioomjklaaGreatDoor
