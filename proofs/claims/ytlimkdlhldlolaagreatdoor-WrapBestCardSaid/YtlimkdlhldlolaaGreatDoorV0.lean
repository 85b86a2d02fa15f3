/-
  Tables by numbers: when they are valid, and what they decide.
-/
import Derived.Test.YtlimkdlhldlolaaGreatDoorQ1
import Derived.Test.YtlimkdlhldlolaaGreatDoorP1
set_option linter.unusedSectionVars false
namespace Go.Proofs.YtlimkdlhldlolaaGreatDoor
set_option maxRecDepth 1000000
section
open Go Go.Am
variable [GT]
def toI (l:List Nat):List Int:=l.map λk:Nat=>(k:Int)
def cP (l:List (List Nat)):List (List Int):=l.map toI
theorem FA (l:List Nat):dI l=aC (toI l):=by simp[lst,toI,Function.comp_def]
theorem jS (l:List (List Nat)):bN l=bU (cP l):=by
 have:dI=λl=>aC (toI l):=funext FA
 simp only[bN,this,bU];simp[lst,cP,Function.comp_def]
def tbl (cl:List Str) (acts:List Int) (LN LM RN RM:List (List Nat)):Tbl:=⟨cl,acts,⟨cP LN,cP LM⟩,⟨cP RN,cP RM⟩⟩
theorem sw (cl:List Str) (acts:List Int) (LN LM RN RM:List (List Nat)):D.agg [strs cl,aC acts,bN LN,bN LM,bN RN,bN RM]=gQ (tbl cl acts LN LM RN RM):=by
 rw[jS,jS,jS,jS];rfl
def vu (r:Nat):Nat->List Nat->Bool
 | _,[]=>true
 | lo,x::l=>Nat.ble lo x&&Nat.blt x r&&vu r (x+1) l
theorem Bq {r:Nat}:∀ {m:List Nat}{lo:Nat},vu r lo m=true->∀ j (h:j<m.length),m[j]<r/\lo<=m[j]/\(j≠0->m[j-1]'(by omega)<m[j])
 | [],lo,hb,j,h=>by simp at h
 | x::l,lo,hb,j,h=>by
  simp only[vu,kC,Nat.ble_eq,Nat.blt_eq] at hb;obtain⟨⟨h1,h2⟩,h3⟩:=hb;cases j with
  | zero=>exact⟨h2,h1,λe=>absurd rfl e⟩
  | succ j=>
   have hj:j<l.length:=by simpa using h
   have ih:=Bq h3 j hj;refine⟨by simpa using ih.1,by simp;omega,λ_=>?_⟩;cases j with
   | zero=>simp;omega
   | succ j=>simpa using ih.2.2 om
def sdB (n r:Nat) (N M:List (List Nat)):Bool:=
 Nat.ble n 1000&&Nat.ble 1 N.length&&Nat.ble N.length 400&&Nat.beq M.length N.length&&N.all (λrow=>Nat.beq row.length n&&row.all λx=>Nat.blt x N.length)&&M.all λm=>vu r 0 m&&Nat.ble m.length 1000
theorem JP {n r:Nat}{N M:List (List Nat)}(h:sdB n r N M=true):Sd ⟨cP N,cP M⟩ n r/\Atm.ok ⟨cP N,cP M⟩:=by
 simp only[sdB,kC,Nat.ble_eq,Nat.beq_eq,kL,Nat.blt_eq] at h;obtain⟨⟨⟨⟨⟨h0,h1⟩,h2⟩,h3⟩,h4⟩,h5⟩:=h;have hn:(cP N).length=N.length:=by simp[cP]
 have hm:(cP M).length=M.length:=by simp[cP]
 refine⟨⟨by simpa [hn] using h1,by simpa [hn] using h2,by rw[hm,hn,h3],λi hi=>?_⟩,⟨by show(cP N).length<=_;omega,by show(cP M).length<=_;omega,λi hi=>?_,λi hi=>?_⟩⟩
 .have hi':i<N.length:=by simpa [hn] using hi
  have e:(cP N)[i]'hi=toI N[i]:=by simp[cP]
  have r1:=h4 N[i] (kM hi');have hiM:i<M.length:=om;have e2:(cP M).getD i []=toI M[i]:=by simp[cP,List.getD,hiM]
  have r2:=(h5 M[i] (kM hiM)).1;refine⟨by show(((cP N)[i]).length:Int)=n;rw[e];simp[toI,r1.1],λj hj=>?_,λj hj=>?_⟩
  .have hj':j<N[i].length:=by
    have:((cP N)[i]'hi).length=N[i].length:=by rw[e];simp[toI]
    have hj2:j<((cP N)[i]'hi).length:=hj;omega
   have e3:((cP N)[i]'hi)[j]'hj=(N[i][j]:Int):=by simp[cP,toI]
   have:=r1.2 N[i][j] (kM hj')
   show 0<=((cP N)[i]'hi)[j]'hj/\((cP N)[i]'hi)[j]'hj<((cP N).length:Int);rw[e3,hn];omega
  .have hj1:j<(toI M[i]).length:=by rw[<-e2];exact hj
   have hj':j<M[i].length:=by simpa [toI] using hj1
   have q:=Bq r2 j hj'
   have e3:∀ (m:List Int) (hm:m=toI M[i]) (h:j<m.length),m[j]=(M[i][j]:Int):=by
    intro m hm h;subst hm;simp[toI]
   have e4:=e3 _ e2 hj;refine⟨?_,by show _<(r:Int);rw[e4];omega⟩;rw[e4];unfold ls;split
   .omega
   .rename_i hj0;have q2:=q.2.2 hj0;rw[e2]
    have:(toI M[i]).getD (j-1) 0=(M[i][j-1]:Int):=by simp[toI,List.getD,show j-1<M[i].length from om]
    rw[this];omega
 .have hi':i<N.length:=by simpa [hn] using hi
  have e:(cP N)[i]'hi=toI N[i]:=by simp[cP]
  have r1:=h4 N[i] (kM hi');show((cP N)[i]'hi).length<=_;rw[e]
  have:(toI N[i]).length=n:=by simp[toI,r1.1]
  omega
 .have hi':i<M.length:=by simpa [hm] using hi
  have e:(cP M)[i]'hi=toI M[i]:=by simp[cP]
  have r1:=(h5 M[i] (kM hi')).2;show((cP M)[i]'hi).length<=_;rw[e]
  have:(toI M[i]).length=M[i].length:=by simp[toI]
  omega
def nvB (l:List Str):Bool:=Nat.ble 1 l.length&&Nat.ble l.length 60&&(List.range l.length).all λi=>match l[i]? with|some s=>qr s&&Nat.ble s.length 32&&!Cn s (l.take i)|none=>false
theorem JU {l:List Str}(h:nvB l=true):NV l:=by
 simp only[nvB,kC,Nat.ble_eq,kL] at h;refine⟨h.1.1,h.1.2,λi hi=>?_⟩;have:=h.2 i (List.mem_range.2 hi)
 rw[List.getElem?_eq_getElem hi] at this;simp only[kC,Nat.ble_eq,Bool.not_eq_true',<-Bool.not_eq_true,qv] at this;have h2:=oD.1 this.1.1;exact⟨⟨⟨h2.2.1,this.1.2,h2.1⟩,h2.2.2⟩,this.2⟩
theorem JN {cl:List Str}{acts:List Int}{LN LM RN RM:List (List Nat)}(h1:NV cl) (h2:(Nat.ble acts.length 100&&acts.all λa=>decide (1<=a/\a<=3))=true) (hL:sdB cl.length acts.length LN LM=true) (hR:sdB cl.length acts.length RN RM=true):TV (tbl cl acts LN LM RN RM)/\(tbl cl acts LN LM RN RM).ok:=by
 simp only[kC,Nat.ble_eq,kL,decide_eq_true_eq] at h2;have hl:=JP hL;have hr:=JP hR;refine⟨⟨h1,h2.1,λi hi=>h2.2 _ (kM hi),hl.1,hr.1⟩,⟨?_,λi hi=>?_,?_,hl.2,hr.2⟩⟩
 .have:=h1.2.1
  show cl.length<=_;omega
 .have:=(h1.2.2 i hi).1.1.2.1
  show cl[i].length<=_;omega
 .show acts.length<=_;omega
def jt (x:Nat):List Nat->Bool
 | []=>false
 | y::l=>Nat.beq x y || jt x l
theorem du {x:Nat}:∀ {l:List Nat},jt x l=true↔x∈l
 | []=>by simp[jt]
 | y::l=>by simp only[jt,kN,Nat.beq_eq,du (l:=l),kH]
def fcN:List Nat->List Nat->Option Nat
 | [],_=>none
 | x::a,b=>bif jt x b then some x else fcN a b
theorem Ah {x:Nat}{l:List Nat}:((x:Int)∈toI l)↔x∈l:=by
 simp only[toI,List.mem_map];exact⟨λ⟨y,hy,e⟩=>(show y=x by omega)▸hy,λh=>⟨x,h,rfl⟩⟩
theorem Fu:∀ {a b:List Nat},fc (toI a) (toI b)=(fcN a b).map λk:Nat=>(k:Int)
 | [],b=>rfl
 | x::a,b=>by
  have ih:=Fu (a:=a) (b:=b);unfold fc at ih ⊢;show List.find? _ ((x:Int)::toI a)=_;rw[List.find?_cons];by_cases h:x∈b
  .have h1:jt x b=true:=du.2 h;simp only[fcN,h1,cond_true,kF,Ah,h,decide_true]
  .have h1:jt x b=false:=by
    cases hb:jt x b with
    | false=>rfl
    | true=>exact absurd (du.1 hb) h
   simp only[fcN,h1,cond_false,Ah,h,decide_false];exact ih
theorem nq {l:List (List Nat)}{i:Nat}:(cP l).getD i []=toI (l.getD i []):=by
 simp only[cP,List.getD,List.getElem?_map];cases l[i]?<;>rfl
theorem D3 {l:List Nat}{i:Nat}:(toI l).getD i 0=((l.getD i 0:Nat):Int):=by
 simp only[toI,List.getD,List.getElem?_map];cases l[i]?<;>rfl
theorem vB {N:List (List Nat)}{s c:Nat}:nxt (cP N) (s:Int) (c:Int)=(((N.getD s []).getD c 0:Nat):Int):=by
 unfold nxt;rw[Int.toNat_natCast,Int.toNat_natCast,nq,D3]
def dd:List Nat->List Nat
 | []=>[]
 | x::l=>bif jt x (dd l) then dd l else x::dd l
theorem zv {x:Nat}:∀ {l:List Nat},x∈l->x∈dd l
 | y::l,h=>by
  simp only[dd];cases hy:jt y (dd l) with
  | true=>
   rw[cond_true];rcases List.mem_cons.1 h with rfl|h
   .exact du.1 hy
   .exact zv h
  | false=>
   rw[cond_false];rcases List.mem_cons.1 h with rfl|h
   .simp
   .exact List.mem_cons_of_mem _ (zv h)
def DO (N:List (List Nat)) (c:Nat):List Nat:=dd (N.map λrow=>row.getD c 0)
theorem GF {N:List (List Nat)}{c s:Nat}(h:s<N.length):(N.getD s []).getD c 0∈DO N c:=by
 refine zv (List.mem_map.2 ⟨N[s],kM h,?_⟩);rw[aH h]
section
variable {cl:List Str}{acts:List Int}{LN LM RN RM:List (List Nat)}
theorem Ea (hv:TV (tbl cl acts LN LM RN RM)){l:List Int}(hc:CL l cl.length){k:Nat}(hk:k<=l.length):∃ x:Nat,x<RN.length/\stR (tbl cl acts LN LM RN RM).right.next l k=x:=by
 have:=lB hv.2.2.2.2 hc k hk
 have e:(tbl cl acts LN LM RN RM).right.next.length=RN.length:=by simp[tbl,cP]
 exact⟨(stR (tbl cl acts LN LM RN RM).right.next l k).toNat,om,om⟩
theorem tG (hv:TV (tbl cl acts LN LM RN RM)){l:List Int}(hc:CL l cl.length){k c:Nat}(hk:k<l.length) (e:l[k]=(c:Int)):∃ x∈DO RN c,stR (tbl cl acts LN LM RN RM).right.next l (l.length-k)=(x:Int):=by
 obtain⟨y,h1,h2⟩:=Ea hv hc (k:=l.length-k-1) om;refine⟨_,GF (c:=c) h1,?_⟩;rw[show l.length-k=(l.length-k-1)+1 from om];simp only[stR];rw[h2,aH (show l.length-1-(l.length-k-1)<l.length by omega)]
 have e':l[l.length-1-(l.length-k-1)]'(by omega)=(c:Int):=by
  rw[<-e];congr 1;omega
 rw[e'];exact vB
noncomputable abbrev Bw (t:Tbl) (l:List Int) (k:Nat):Int:=DK t (rh t (stL t.left.next l k) (stR t.right.next l (l.length-k)))
end
end
section
open Go Go.Am Classical
section
variable [GT]
theorem BL {k:Int}:Pu Tryz.prog 63 [i64 k] (boo (decide (1<=k/\k<=4))):=by
 refine pv Tryz.func63 ?_;repeat' ((conv=>whnf);first|exact kQ|(refine bk ?_ ?_<;>intro _<;>try exact exo)|refine stq ?_)
 all_goals(conv=>whnf)
 all_goals first
  | exact aD.yes om
  | exact aD.no om
theorem rcl_c {l:List Int}{n:Int}(hx:l.length<=1000):Pu Tryz.prog 69 [aC l,i64 n] (boo (decide (CL l n))):=by
 refine pv Tryz.func69 ?_;repeat' ((conv=>whnf);first|exact kQ|(refine bk ?_ ?_<;>intro _<;>try exact exo)|refine stq ?_)
 refine aG.by aB T0 (λk:Nat=>⟨tmp 25 [(0,aC l),(1,i64 n),(5,i64 (k:Int))],⟨0,[]⟩⟩)
  (λk=>k<=l.length/\∀ i (h:i<l.length),i<k->0<=l[i]/\l[i]<n) (λk=>l.length-k) 0 ⟨om,λ_ _ h=>om⟩ ?_ ?_
 .exact lq0
 intro k ⟨h3,h4⟩;repeat' ((conv=>whnf);first|exact kQ|(refine bk ?_ ?_<;>intro _<;>try exact exo)|refine stq ?_)
 all_goals(conv=>whnf)
 all_goals first
  | exact aD.no (λhc=>by have:=hc k om;omega)
  | exact aD.yes (bt om h4)
  | (refine⟨k+1,⟨om,aj om h4 ⟨om,om⟩⟩,om,?_⟩
     exact lq0)
end
end
section
open Go Go.Am
def mL1:Mch:=⟨ux [(1,[15,1,1,2]),(2,[1,1]),(1,[15,2]),(1,[15,4,1,5,2,5,3,5]),(1,[15,4]),(1,[15,5]),(1,[15,6]),(1,[15,8,9,9]),(9,[9,8]),(1,[15,9]),(1,[15,11,10,12,12,12]),(1,[15,11]),(1,[15,12]),(1,[15,14,11,15,13,15]),(1,[15,14]),(1,[15,15]),(1,[15,17]),(18,[]),(1,[15,19]),(20,[]),(1,[15,21,7,22]),(1,[15,21]),(1,[15,22]),(1,[15,24,5,25]),(1,[15,24]),(26,[4,25,14,26]),(1,[15,26]),(1,[15,28,6,29]),(1,[15,28]),(29,[6,30]),(29,[]),(1,[15,32,6,33]),(1,[15,32]),(1,[15,34,6,35]),(1,[15,34]),(33,[]),(1,[15,36])] [],[false,false,true,false,false,true,true,false,false,true,false,false,true,false,false,true,false,true,false,true,false,false,true,false,false,false,true,false,false,true,false,false,false,false,true,false,true],[0,3,6,7,10,13,16,18,20,23,27,31,36]⟩
def mR1:Mch:=⟨ux [(1,[15,1,2,2]),(2,[2,1]),(1,[15,2]),(1,[15,3]),(1,[15,5,1,6,2,6,3,6]),(1,[15,5]),(1,[15,6]),(1,[15,8,9,9,10,9,12,9,13,9]),(1,[15,8]),(1,[15,9]),(1,[15,11,10,12,11,12]),(1,[15,11]),(1,[15,12]),(1,[15,14,11,15]),(1,[15,14]),(1,[15,15]),(1,[15,17,4,18,5,18]),(1,[15,17]),(1,[15,18]),(1,[15,20,8,21]),(1,[15,20]),(1,[15,21]),(1,[15,23]),(24,[]),(1,[15,25,14,26]),(1,[15,25]),(1,[15,26]),(1,[15,28,6,29]),(1,[15,28]),(1,[15,29]),(1,[15,31,6,32]),(1,[15,31]),(1,[15,32]),(1,[15,33])] [],[false,false,true,true,false,false,true,false,false,true,false,false,true,false,false,true,false,false,true,false,false,true,false,true,false,false,true,false,false,true,false,false,true,true],[0,3,4,7,10,13,16,19,22,24,27,30,33]⟩
def LN1:List (List Nat):=ux [(0,[1,2,3,3,1,1,4,5,1,6,7,8,7,8,9]),(2,[6,10]),(3,[]),(3,[]),(2,[6,11]),(3,[]),(3,[]),(3,[]),(3,[]),(3,[4,9,5,12]),(2,[6,1]),(2,[]),(3,[])] []
def LM1:List (List Nat):=ux [(0,[2,12]),(0,[2,6,7,12]),(0,[0,1,2,6,7,12]),(0,[1,2,6,7,12]),(0,[2,6,7,10,12]),(6,[3,8]),(5,[0,2,1,3]),(8,[1,4]),(8,[1,5]),(3,[]),(6,[3,11]),(3,[]),(6,[3,9])] []
def RN1:List (List Nat):=ux [(0,[1,2,3,2,4,4,5,1,6,7,8,9,7,7,10]),(2,[]),(2,[]),(2,[]),(2,[]),(2,[]),(2,[]),(2,[]),(2,[]),(2,[]),(2,[])] []
def RM1:List (List Nat):=[[1,12],[1,8,12],[1,2,8,12],[0,1,2,8,12],[1,6,8,12],[1,8,10,11,12],[1,7,8,12],[1,3,8,12],[1,3,4,8,12],[1,4,5,8,12],[1,8,9,12]]
theorem fl1:gu true 3000 15 15 (rs1.map (·.left)) ⟨[],[],[]⟩=some mL1:=by kernel_rfl
theorem fr1:gu false 3000 15 (15+1) (rs1.map (·.right)) ⟨[],[],[]⟩=some mR1:=by kernel_rfl
def cL1:List (List Nat):=ux [(0,[1,1,2,4,4,5,6,8,8,9,11,11,12,14,14,15,17,17,19,19,21,21,22,24,24,24,26,28,28,28,28,32,32,34,34,32,36]),(2,[0,2,3,5]),(2,[3,5]),(4,[]),(2,[25,25]),(2,[23,25]),(2,[27,29,29,30,30,29,31,33,33,35,35,33]),(2,[20,22]),(2,[]),(2,[7,9]),(2,[10,12]),(2,[13,15]),(12,[]),(13,[]),(2,[25,26])] []
theorem al1:i8 15 mL1.nx mL1.ro 3000 0 [mL1.hi] [] []=some (LN1,LM1):=vq (cols:=cL1) (x:=86508212836) (by kernel_rfl) (by kernel_rfl) (by kernel_rfl) (by kernel_rfl)
def cR1:List (List Nat):=ux [(0,[1,1,2,3,5,5,6,8,8,9,11,11,12,14,14,15,17,17,18,20,20,21,23,23,25,25,26,28,28,29,31,31,32,33]),(2,[4,6]),(3,[0,2]),(3,[]),(2,[16,18]),(6,[]),(2,[27,29,30,32]),(2,[]),(2,[19,21]),(2,[7,9]),(11,[10,12]),(12,[7,8,13,15]),(11,[]),(11,[]),(2,[24,26])] []
theorem ar1:i8 15 mR1.nx mR1.ro 3000 0 [mR1.hi] [] []=some (RN1,RM1):=vq (cols:=cR1) (x:=13499667020) (by kernel_rfl) (by kernel_rfl) (by kernel_rfl) (by kernel_rfl)
theorem comp1:comp 3000 15 rs1=some ((LN1,LM1),(RN1,RM1)):=Bg fl1 fr1 (by kernel_rfl) (by kernel_rfl) al1 ar1
end
section
open Go Go.Am
def t1:Tbl:=tbl cl1 (rs1.map (·.act)) LN1 LM1 RN1 RM1
theorem JO:@Pu gtR Tryz.prog 54 [i64 1] (gQ t1):=by
 letI:=gtR;rw[t1,<-sw];exact Aj (.inl ⟨rfl,rfl⟩) Hp (F:=3000) om (by decide) (by decide) (by decide) (by decide) comp1
theorem nv1:NV cl1:=@JU gtR _ (by kernel_rfl)
theorem tv1:TV t1/\t1.ok:=by
 letI:=gtR;exact JN (LN:=LN1) (LM:=LM1) (RN:=RN1) (RM:=RM1) nv1 (acts:=rs1.map (·.act)) (by kernel_rfl) (by kernel_rfl) (by kernel_rfl)
theorem JS:@Pu gtR Tryz.prog 65 [i64 1] (strs cl1):=by
 letI:=gtR;exact Pu.of_t aB T0 eZ rfl (by kernel_rfl:cK gtR Tryz.prog (ci Tryz.prog) spC 100 (.fn 65) [i64 1] .emp 0 (λd1 h1 _=>cQ h1 100000 d1 (strs cl1))=true)
end
end Go.Proofs.YtlimkdlhldlolaaGreatDoor
