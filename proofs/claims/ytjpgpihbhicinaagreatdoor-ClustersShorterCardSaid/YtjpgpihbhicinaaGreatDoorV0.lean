/-
  Tables by numbers: when they are valid, and what they decide.
-/
import Derived.Test.YtjpgpihbhicinaaGreatDoorD1
import Derived.Test.YtjpgpihbhicinaaGreatDoorQ1
import Derived.Test.YtjpgpihbhicinaaGreatDoorP1
set_option linter.unusedSectionVars false
namespace Go.Proofs.YtjpgpihbhicinaaGreatDoor
section
open Go Go.Am
set_option maxRecDepth 100000
variable [GT]
def toI (l:List Nat):List Int:=l.map fun k:Nat=>(k:Int)
def ci (l:List (List Nat)):List (List Int):=l.map toI
theorem Ap (l:List Nat):cu l=aQ (toI l):=by simp[lst,toI,Function.comp_def]
theorem ib (l:List (List Nat)):bR l=bO (ci l):=by
 have:cu=fun l=>aQ (toI l):=funext Ap
 simp only[bR,this,bO];simp[lst,ci,Function.comp_def]
def tbl (cl:List Str) (acts:List Int) (LN LM RN RM:List (List Nat)):Tbl:=⟨cl,acts,⟨ci LN,ci LM⟩,⟨ci RN,ci RM⟩⟩
theorem rC (cl:List Str) (acts:List Int) (LN LM RN RM:List (List Nat)):D.agg [strs cl,aQ acts,bR LN,bR LM,bR RN,bR RM]=d7 (tbl cl acts LN LM RN RM):=by
 rw[ib,ib,ib,ib];rfl
def Dz (r:Nat):Nat→List Nat→Bool
 | _,[]=>true
 | lo,x::l=>Nat.ble lo x&&Nat.blt x r&&Dz r (x+1) l
theorem yD {r:Nat}:∀ {m:List Nat}{lo:Nat},Dz r lo m=true→∀ j (h:j<m.length),m[j]<r∧lo≤m[j]∧(j≠0→m[j-1]'(by omega)<m[j])
 | [],lo,hb,j,h=>by simp at h
 | x::l,lo,hb,j,h=>by
  simp only[Dz,kC,Nat.ble_eq,Nat.blt_eq] at hb;obtain⟨⟨h1,h2⟩,h3⟩:=hb;cases j with
  | zero=>exact⟨h2,h1,fun e=>absurd rfl e⟩
  | succ j=>
   have hj:j<l.length:=by simpa using h
   have ih:=yD h3 j hj;refine⟨by simpa using ih.1,by simp;omega,fun _=>?_⟩;cases j with
   | zero=>simp;omega
   | succ j=>simpa using ih.2.2 (by omega)
def sdB (n r:Nat) (N M:List (List Nat)):Bool:=
 Nat.ble n 1000&&Nat.ble 1 N.length&&Nat.ble N.length 400&&Nat.beq M.length N.length&&N.all (fun row=>Nat.beq row.length n&&row.all fun x=>Nat.blt x N.length)&&M.all fun m=>Dz r 0 m&&Nat.ble m.length 1000
theorem EE {n r:Nat}{N M:List (List Nat)}(h:sdB n r N M=true):Sd ⟨ci N,ci M⟩ n r∧Atm.ok ⟨ci N,ci M⟩:=by
 simp only[sdB,kC,Nat.ble_eq,Nat.beq_eq,kL,Nat.blt_eq] at h;obtain⟨⟨⟨⟨⟨h0,h1⟩,h2⟩,h3⟩,h4⟩,h5⟩:=h;have hn:(ci N).length=N.length:=by simp[ci]
 have hm:(ci M).length=M.length:=by simp[ci]
 refine⟨⟨by simpa [hn] using h1,by simpa [hn] using h2,by rw[hm,hn,h3],fun i hi=>?_⟩,⟨by show(ci N).length≤_;omega,by show(ci M).length≤_;omega,fun i hi=>?_,fun i hi=>?_⟩⟩
 ·have hi':i<N.length:=by simpa [hn] using hi
  have e:(ci N)[i]'hi=toI N[i]:=by simp[ci]
  have r1:=h4 N[i] (kM hi');have hiM:i<M.length:=by omega
  have e2:(ci M).getD i []=toI M[i]:=by simp[ci,List.getD,hiM]
  have r2:=(h5 M[i] (kM hiM)).1;refine⟨by show(((ci N)[i]).length:Int)=n;rw[e];simp[toI,r1.1],fun j hj=>?_,fun j hj=>?_⟩
  ·have hj':j<N[i].length:=by
    have:((ci N)[i]'hi).length=N[i].length:=by rw[e];simp[toI]
    have hj2:j<((ci N)[i]'hi).length:=hj;omega
   have e3:((ci N)[i]'hi)[j]'hj=(N[i][j]:Int):=by simp[ci,toI]
   have:=r1.2 N[i][j] (kM hj')
   show 0≤((ci N)[i]'hi)[j]'hj∧((ci N)[i]'hi)[j]'hj<((ci N).length:Int);rw[e3,hn];omega
  ·have hj1:j<(toI M[i]).length:=by rw[←e2];exact hj
   have hj':j<M[i].length:=by simpa [toI] using hj1
   have q:=yD r2 j hj'
   have e3:∀ (m:List Int) (hm:m=toI M[i]) (h:j<m.length),m[j]=(M[i][j]:Int):=by
    intro m hm h;subst hm;simp[toI]
   have e4:=e3 _ e2 hj;refine⟨?_,by show _<(r:Int);rw[e4];omega⟩;rw[e4];unfold kr;split
   ·omega
   ·rename_i hj0;have q2:=q.2.2 hj0;rw[e2]
    have:(toI M[i]).getD (j-1) 0=(M[i][j-1]:Int):=by simp[toI,List.getD,show j-1<M[i].length from by omega]
    rw[this];omega
 ·have hi':i<N.length:=by simpa [hn] using hi
  have e:(ci N)[i]'hi=toI N[i]:=by simp[ci]
  have r1:=h4 N[i] (kM hi');show((ci N)[i]'hi).length≤_;rw[e]
  have:(toI N[i]).length=n:=by simp[toI,r1.1]
  omega
 ·have hi':i<M.length:=by simpa [hm] using hi
  have e:(ci M)[i]'hi=toI M[i]:=by simp[ci]
  have r1:=(h5 M[i] (kM hi')).2;show((ci M)[i]'hi).length≤_;rw[e]
  have:(toI M[i]).length=M[i].length:=by simp[toI]
  omega
def nvB (l:List Str):Bool:=Nat.ble 1 l.length&&Nat.ble l.length 60&&(List.range l.length).all fun i=>match l[i]? with|some s=>pm s&&Nat.ble s.length 32&&!yy s (l.take i)|none=>false
theorem xN {l:List Str}(h:nvB l=true):NV l:=by
 simp only[nvB,kC,Nat.ble_eq,kL] at h;refine⟨h.1.1,h.1.2,fun i hi=>?_⟩;have:=h.2 i (List.mem_range.2 hi)
 rw[List.getElem?_eq_getElem hi] at this;simp only[kC,Nat.ble_eq,Bool.not_eq_true',←Bool.not_eq_true,pw] at this;have h2:=mq.1 this.1.1;exact⟨⟨⟨h2.2.1,this.1.2,h2.1⟩,h2.2.2⟩,this.2⟩
theorem wu {cl:List Str}{acts:List Int}{LN LM RN RM:List (List Nat)}(h1:NV cl) (h2:(Nat.ble acts.length 100&&acts.all fun a=>decide (1≤a∧a≤3))=true) (hL:sdB cl.length acts.length LN LM=true) (hR:sdB cl.length acts.length RN RM=true):TV (tbl cl acts LN LM RN RM)∧(tbl cl acts LN LM RN RM).ok:=by
 simp only[kC,Nat.ble_eq,kL,decide_eq_true_eq] at h2;have hl:=EE hL;have hr:=EE hR;refine⟨⟨h1,h2.1,fun i hi=>h2.2 _ (kM hi),hl.1,hr.1⟩,⟨?_,fun i hi=>?_,?_,hl.2,hr.2⟩⟩
 ·have:=h1.2.1
  show cl.length≤_;omega
 ·have:=(h1.2.2 i hi).1.1.2.1
  show cl[i].length≤_;omega
 ·show acts.length≤_;omega
def yx (x:Nat):List Nat→Bool
 | []=>false
 | y::l=>Nat.beq x y || yx x l
theorem uV {x:Nat}:∀ {l:List Nat},yx x l=true↔x∈l
 | []=>by simp[yx]
 | y::l=>by simp only[yx,kN,Nat.beq_eq,uV (l:=l),kH]
theorem yX {l:List (List Nat)}{i:Nat}:(ci l).getD i []=toI (l.getD i []):=by
 simp only[ci,List.getD,List.getElem?_map];cases l[i]?<;>rfl
theorem zv {l:List Nat}{i:Nat}:(toI l).getD i 0=((l.getD i 0:Nat):Int):=by
 simp only[toI,List.getD,List.getElem?_map];cases l[i]?<;>rfl
theorem DB {N:List (List Nat)}{s c:Nat}:nxt (ci N) (s:Int) (c:Int)=(((N.getD s []).getD c 0:Nat):Int):=by
 unfold nxt;rw[Int.toNat_natCast,Int.toNat_natCast,yX,zv]
def dd:List Nat→List Nat
 | []=>[]
 | x::l=>bif yx x (dd l) then dd l else x::dd l
theorem wH {x:Nat}:∀ {l:List Nat},x∈l→x∈dd l
 | y::l,h=>by
  simp only[dd];cases hy:yx y (dd l) with
  | true=>
   rw[cond_true];rcases List.mem_cons.1 h with rfl|h
   ·exact uV.1 hy
   ·exact wH h
  | false=>
   rw[cond_false];rcases List.mem_cons.1 h with rfl|h
   ·simp
   ·exact List.mem_cons_of_mem _ (wH h)
def zS (N:List (List Nat)) (c:Nat):List Nat:=dd (N.map fun row=>row.getD c 0)
theorem Bo {N:List (List Nat)}{c s:Nat}(h:s<N.length):(N.getD s []).getD c 0∈zS N c:=by
 refine wH (List.mem_map.2 ⟨N[s],kM h,?_⟩);rw[ac h]
section
variable {cl:List Str}{acts:List Int}{LN LM RN RM:List (List Nat)}
theorem AV (hv:TV (tbl cl acts LN LM RN RM)){l:List Int}(hc:CL l cl.length){k:Nat}(hk:k≤l.length):∃ x:Nat,x<RN.length∧stR (tbl cl acts LN LM RN RM).right.next l k=x:=by
 have:=j3 hv.2.2.2.2 hc k hk
 have e:(tbl cl acts LN LM RN RM).right.next.length=RN.length:=by simp[tbl,ci]
 exact⟨(stR (tbl cl acts LN LM RN RM).right.next l k).toNat,by omega,by omega⟩
theorem rJ (hv:TV (tbl cl acts LN LM RN RM)){l:List Int}(hc:CL l cl.length){k c:Nat}(hk:k<l.length) (e:l[k]=(c:Int)):∃ x∈zS RN c,stR (tbl cl acts LN LM RN RM).right.next l (l.length-k)=(x:Int):=by
 obtain⟨y,h1,h2⟩:=AV hv hc (k:=l.length-k-1) (by omega);refine⟨_,Bo (c:=c) h1,?_⟩;rw[show l.length-k=(l.length-k-1)+1 from by omega];simp only[stR];rw[h2,ac (show l.length-1-(l.length-k-1)<l.length by omega)]
 have e':l[l.length-1-(l.length-k-1)]'(by omega)=(c:Int):=by
  rw[←e];congr 1;omega
 rw[e'];exact DB
noncomputable abbrev yG (t:Tbl) (l:List Int) (k:Nat):Int:=Bh t (wX t (stL t.left.next l k) (stR t.right.next l (l.length-k)))
end
end
section
open Go Go.Am
set_option maxRecDepth 1000000
def t1:Tbl:=tbl cl1 (rs1.map (·.act)) LN1 LM1 RN1 RM1
theorem zy:@Pu gtR Tryz.prog 51 [i64 1] (d7 t1):=by
 letI:=gtR;rw[t1,←rC];exact oX (.inl ⟨rfl,rfl⟩) C5 (F:=3000) (by omega) (by decide) (by decide) (by decide) (by decide) comp1
theorem nv1:NV cl1:=@xN gtR _ (by kernel_rfl)
theorem tv1:TV t1∧t1.ok:=by
 letI:=gtR;exact wu (LN:=LN1) (LM:=LM1) (RN:=RN1) (RM:=RM1) nv1 (acts:=rs1.map (·.act)) (by kernel_rfl) (by kernel_rfl) (by kernel_rfl)
end
end Go.Proofs.YtjpgpihbhicinaaGreatDoor
