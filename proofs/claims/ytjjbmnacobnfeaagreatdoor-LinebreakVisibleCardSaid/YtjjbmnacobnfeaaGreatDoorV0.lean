/-
  Tables by numbers: when they are valid, and what they decide.
-/
import Derived.Test.YtjjbmnacobnfeaaGreatDoorD1
import Derived.Test.YtjjbmnacobnfeaaGreatDoorQ1
set_option linter.unusedSectionVars false
namespace Go.Proofs.YtjjbmnacobnfeaaGreatDoor
open Go Go.Am
set_option maxRecDepth 100000
variable [GT]
def toI (l:List Nat):List Int:=l.map fun k:Nat=>(k:Int)
def cd (l:List (List Nat)):List (List Int):=l.map toI
theorem zt (l:List Nat):c9 l=aa (toI l):=by simp[lst,toI,Function.comp_def]
theorem iz (l:List (List Nat)):bX l=bV (cd l):=by
 have:c9=fun l=>aa (toI l):=funext zt
 simp only[bX,this,bV]
 simp[lst,cd,Function.comp_def]
def tbl (cl:List Str) (acts:List Int) (LN LM RN RM:List (List Nat)):Tbl:=⟨cl,acts,⟨cd LN,cd LM⟩,⟨cd RN,cd RM⟩⟩
theorem zA (cl:List Str) (acts:List Int) (LN LM RN RM:List (List Nat)):D.agg [strs cl,aa acts,bX LN,bX LM,bX RN,bX RM]=oh (tbl cl acts LN LM RN RM):=by
 rw[iz,iz,iz,iz];rfl
def Cw (r:Nat):Nat→List Nat→Bool
 | _,[]=>true
 | lo,x::l=>Nat.ble lo x&&Nat.blt x r&&Cw r (x+1) l
theorem xW {r:Nat}:∀ {m:List Nat}{lo:Nat},Cw r lo m=true→∀ j (h:j<m.length),m[j]<r∧lo≤m[j]∧(j≠0→m[j-1]'(by omega)<m[j])
 | [],lo,hb,j,h=>by simp at h
 | x::l,lo,hb,j,h=>by
  simp only[Cw,Bool.and_eq_true,Nat.ble_eq,Nat.blt_eq] at hb
  obtain⟨⟨h1,h2⟩,h3⟩:=hb
  cases j with
  | zero=>exact⟨h2,h1,fun e=>absurd rfl e⟩
  | succ j=>
   have hj:j<l.length:=by simpa using h
   have ih:=xW h3 j hj
   refine⟨by simpa using ih.1,by simp;omega,fun _=>?_⟩
   cases j with
   | zero=>simp;omega
   | succ j=>simpa using ih.2.2 (by omega)
def sdB (n r:Nat) (N M:List (List Nat)):Bool:=
 Nat.ble n 1000&&Nat.ble 1 N.length&&Nat.ble N.length 400&&Nat.beq M.length N.length&&N.all (fun row=>Nat.beq row.length n&&row.all fun x=>Nat.blt x N.length)&&M.all fun m=>Cw r 0 m&&Nat.ble m.length 1000
theorem DM {n r:Nat}{N M:List (List Nat)}(h:sdB n r N M=true):Sd ⟨cd N,cd M⟩ n r∧Atm.ok ⟨cd N,cd M⟩:=by
 simp only[sdB,Bool.and_eq_true,Nat.ble_eq,Nat.beq_eq,List.all_eq_true,Nat.blt_eq] at h
 obtain⟨⟨⟨⟨⟨h0,h1⟩,h2⟩,h3⟩,h4⟩,h5⟩:=h
 have hn:(cd N).length=N.length:=by simp[cd]
 have hm:(cd M).length=M.length:=by simp[cd]
 refine⟨⟨by simpa [hn] using h1,by simpa [hn] using h2,by rw[hm,hn,h3],fun i hi=>?_⟩,⟨by show(cd N).length≤_;omega,by show(cd M).length≤_;omega,fun i hi=>?_,fun i hi=>?_⟩⟩
 ·have hi':i<N.length:=by simpa [hn] using hi
  have e:(cd N)[i]'hi=toI N[i]:=by simp[cd]
  have r1:=h4 N[i] (List.getElem_mem hi')
  have hiM:i<M.length:=by omega
  have e2:(cd M).getD i []=toI M[i]:=by simp[cd,List.getD,hiM]
  have r2:=(h5 M[i] (List.getElem_mem hiM)).1
  refine⟨by show(((cd N)[i]).length:Int)=n;rw[e];simp[toI,r1.1],fun j hj=>?_,fun j hj=>?_⟩
  ·have hj':j<N[i].length:=by
    have:((cd N)[i]'hi).length=N[i].length:=by rw[e];simp[toI]
    have hj2:j<((cd N)[i]'hi).length:=hj
    omega
   have e3:((cd N)[i]'hi)[j]'hj=(N[i][j]:Int):=by simp[cd,toI]
   have:=r1.2 N[i][j] (List.getElem_mem hj')
   show 0≤((cd N)[i]'hi)[j]'hj∧((cd N)[i]'hi)[j]'hj<((cd N).length:Int)
   rw[e3,hn]
   omega
  ·have hj1:j<(toI M[i]).length:=by rw[←e2];exact hj
   have hj':j<M[i].length:=by simpa [toI] using hj1
   have q:=xW r2 j hj'
   have e3:∀ (m:List Int) (hm:m=toI M[i]) (h:j<m.length),m[j]=(M[i][j]:Int):=by
    intro m hm h;subst hm;simp[toI]
   have e4:=e3 _ e2 hj
   refine⟨?_,by show _<(r:Int);rw[e4];omega⟩
   rw[e4]
   unfold kz
   split
   ·omega
   ·rename_i hj0
    have q2:=q.2.2 hj0
    rw[e2]
    have:(toI M[i]).getD (j-1) 0=(M[i][j-1]:Int):=by simp[toI,List.getD,show j-1<M[i].length from by omega]
    rw[this]
    omega
 ·have hi':i<N.length:=by simpa [hn] using hi
  have e:(cd N)[i]'hi=toI N[i]:=by simp[cd]
  have r1:=h4 N[i] (List.getElem_mem hi')
  show((cd N)[i]'hi).length≤_
  rw[e]
  have:(toI N[i]).length=n:=by simp[toI,r1.1]
  omega
 ·have hi':i<M.length:=by simpa [hm] using hi
  have e:(cd M)[i]'hi=toI M[i]:=by simp[cd]
  have r1:=(h5 M[i] (List.getElem_mem hi')).2
  show((cd M)[i]'hi).length≤_
  rw[e]
  have:(toI M[i]).length=M[i].length:=by simp[toI]
  omega
def nvB (l:List Str):Bool:=Nat.ble 1 l.length&&Nat.ble l.length 60&&(List.range l.length).all fun i=>match l[i]? with|some s=>pP s&&Nat.ble s.length 32&&!yH s (l.take i)|none=>false
theorem nv_of {l:List Str}(h:nvB l=true):NV l:=by
 simp only[nvB,Bool.and_eq_true,Nat.ble_eq,List.all_eq_true] at h
 refine⟨h.1.1,h.1.2,fun i hi=>?_⟩
 have:=h.2 i (List.mem_range.2 hi)
 rw[List.getElem?_eq_getElem hi] at this
 simp only[Bool.and_eq_true,Nat.ble_eq,Bool.not_eq_true',←Bool.not_eq_true,pT] at this
 have h2:=m3.1 this.1.1
 exact⟨⟨⟨h2.2.1,this.1.2,h2.1⟩,h2.2.2⟩,this.2⟩
theorem tv_of {cl:List Str}{acts:List Int}{LN LM RN RM:List (List Nat)}(h1:NV cl) (h2:(Nat.ble acts.length 100&&acts.all fun a=>decide (1≤a∧a≤3))=true) (hL:sdB cl.length acts.length LN LM=true) (hR:sdB cl.length acts.length RN RM=true):TV (tbl cl acts LN LM RN RM)∧(tbl cl acts LN LM RN RM).ok:=by
 simp only[Bool.and_eq_true,Nat.ble_eq,List.all_eq_true,decide_eq_true_eq] at h2
 have hl:=DM hL
 have hr:=DM hR
 refine⟨⟨h1,h2.1,fun i hi=>h2.2 _ (List.getElem_mem hi),hl.1,hr.1⟩,⟨?_,fun i hi=>?_,?_,hl.2,hr.2⟩⟩
 ·have:=h1.2.1
  show cl.length≤_
  omega
 ·have:=(h1.2.2 i hi).1.1.2.1
  show cl[i].length≤_
  omega
 ·show acts.length≤_
  omega
def qR (x:Nat):List Nat→Bool
 | []=>false
 | y::l=>Nat.beq x y || qR x l
theorem mB {x:Nat}:∀ {l:List Nat},qR x l=true↔x∈l
 | []=>by simp[qR]
 | y::l=>by simp only[qR,Bool.or_eq_true,Nat.beq_eq,mB (l:=l),List.mem_cons]
def fcN:List Nat→List Nat→Option Nat
 | [],_=>none
 | x::a,b=>bif qR x b then some x else fcN a b
theorem wP {x:Nat}{l:List Nat}:((x:Int)∈toI l)↔x∈l:=by
 simp only[toI,List.mem_map]
 exact⟨fun⟨y,hy,e⟩=>(show y=x by omega)▸hy,fun h=>⟨x,h,rfl⟩⟩
theorem Aa:∀ {a b:List Nat},fc (toI a) (toI b)=(fcN a b).map fun k:Nat=>(k:Int)
 | [],b=>rfl
 | x::a,b=>by
  have ih:=Aa (a:=a) (b:=b)
  unfold fc at ih ⊢
  show List.find? _ ((x:Int)::toI a)=_
  rw[List.find?_cons]
  by_cases h:x∈b
  ·have h1:qR x b=true:=mB.2 h
   simp only[fcN,h1,cond_true,Option.map_some,wP,h,decide_true]
  ·have h1:qR x b=false:=by
    cases hb:qR x b with
    | false=>rfl
    | true=>exact absurd (mB.1 hb) h
   simp only[fcN,h1,cond_false,wP,h,decide_false]
   exact ih
def BD (acts:List Int) (LM RM:List (List Nat)) (x y:Nat):Int:=
 match fcN (LM.getD x []) (RM.getD y []) with
 | some r=>acts.getD r 0
 | none=>2
theorem mi {l:List (List Nat)}{i:Nat}:(cd l).getD i []=toI (l.getD i []):=by
 simp only[cd,List.getD,List.getElem?_map]
 cases l[i]?<;>rfl
theorem y9 {l:List Nat}{i:Nat}:(toI l).getD i 0=((l.getD i 0:Nat):Int):=by
 simp only[toI,List.getD,List.getElem?_map]
 cases l[i]?<;>rfl
theorem CA {N:List (List Nat)}{s c:Nat}:nxt (cd N) (s:Int) (c:Int)=(((N.getD s []).getD c 0:Nat):Int):=by
 unfold nxt
 rw[Int.toNat_natCast,Int.toNat_natCast,mi,y9]
theorem C3 {cl:List Str}{acts:List Int}{LN LM RN RM:List (List Nat)}{x y:Nat}:uX (tbl cl acts LN LM RN RM) (si (tbl cl acts LN LM RN RM) (x:Int) (y:Int))=BD acts LM RM x y:=by
 unfold si
 show uX (tbl cl acts LN LM RN RM) (fc ((cd LM).getD (x:Int).toNat []) ((cd RM).getD (y:Int).toNat []))=_
 rw[Int.toNat_natCast,Int.toNat_natCast,mi,mi,Aa]
 unfold BD
 cases fcN (LM.getD x []) (RM.getD y []) with
 | none=>rfl
 | some r=>simp[uX,tbl]
def dd:List Nat→List Nat
 | []=>[]
 | x::l=>bif qR x (dd l) then dd l else x::dd l
theorem vb {x:Nat}:∀ {l:List Nat},x∈l→x∈dd l
 | y::l,h=>by
  simp only[dd]
  cases hy:qR y (dd l) with
  | true=>
   rw[cond_true]
   rcases List.mem_cons.1 h with rfl|h
   ·exact mB.1 hy
   ·exact vb h
  | false=>
   rw[cond_false]
   rcases List.mem_cons.1 h with rfl|h
   ·simp
   ·exact List.mem_cons_of_mem _ (vb h)
def Ar (N:List (List Nat)) (c:Nat):List Nat:=dd (N.map fun row=>row.getD c 0)
theorem Aq {N:List (List Nat)}{c s:Nat}(h:s<N.length):(N.getD s []).getD c 0∈Ar N c:=by
 refine vb (List.mem_map.2 ⟨N[s],List.getElem_mem h,?_⟩)
 rw[aW h]
section
variable {cl:List Str}{acts:List Int}{LN LM RN RM:List (List Nat)}
theorem CK (hv:TV (tbl cl acts LN LM RN RM)){l:List Int}(hc:CL l cl.length){k:Nat}(hk:k≤l.length):∃ x:Nat,x<LN.length∧stL (tbl cl acts LN LM RN RM).left.next l k=x:=by
 have:=kI hv.2.2.2.1 hc k hk
 have e:(tbl cl acts LN LM RN RM).left.next.length=LN.length:=by simp[tbl,cd]
 exact⟨(stL (tbl cl acts LN LM RN RM).left.next l k).toNat,by omega,by omega⟩
theorem zZ (hv:TV (tbl cl acts LN LM RN RM)){l:List Int}(hc:CL l cl.length){k:Nat}(hk:k≤l.length):∃ x:Nat,x<RN.length∧stR (tbl cl acts LN LM RN RM).right.next l k=x:=by
 have:=kH hv.2.2.2.2 hc k hk
 have e:(tbl cl acts LN LM RN RM).right.next.length=RN.length:=by simp[tbl,cd]
 exact⟨(stR (tbl cl acts LN LM RN RM).right.next l k).toNat,by omega,by omega⟩
theorem xr (hv:TV (tbl cl acts LN LM RN RM)){l:List Int}(hc:CL l cl.length){k c:Nat}(hk:k<l.length) (e:l[k]=(c:Int)):∃ x∈Ar RN c,stR (tbl cl acts LN LM RN RM).right.next l (l.length-k)=(x:Int):=by
 obtain⟨y,h1,h2⟩:=zZ hv hc (k:=l.length-k-1) (by omega)
 refine⟨_,Aq (c:=c) h1,?_⟩
 rw[show l.length-k=(l.length-k-1)+1 from by omega]
 simp only[stR]
 rw[h2,aW (show l.length-1-(l.length-k-1)<l.length by omega)]
 have e':l[l.length-1-(l.length-k-1)]'(by omega)=(c:Int):=by
  rw[←e];congr 1;omega
 rw[e']
 exact CA
noncomputable abbrev BE (t:Tbl) (l:List Int) (k:Nat):Int:=uX t (si t (stL t.left.next l k) (stR t.right.next l (l.length-k)))
def BC (xs ys:List Nat) (p:Nat→Nat→Bool):Bool:=xs.all fun x=>ys.all fun y=>p x y
theorem Cz {xs ys:List Nat}{p:Nat→Nat→Bool}(h:BC xs ys p=true){x y:Nat}(hx:x∈xs) (hy:y∈ys):p x y=true:=by
 simp only[BC,List.all_eq_true] at h
 exact h x hx y hy
end
end Go.Proofs.YtjjbmnacobnfeaaGreatDoor
