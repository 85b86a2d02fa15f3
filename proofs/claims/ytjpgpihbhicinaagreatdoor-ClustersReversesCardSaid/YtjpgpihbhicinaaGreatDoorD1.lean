/-
  Rules parsed by a closed run, and checked behind it.
-/
import Derived.Test.YtjpgpihbhicinaaGreatDoorD0
import Derived.Test.YtjpgpihbhicinaaGreatDoorAmF
set_option linter.unusedSectionVars false
namespace Go.Proofs.YtjpgpihbhicinaaGreatDoor
section
open Go Go.Am
set_option maxRecDepth 100000
abbrev td:Box:=.cells [aT,aT,aT,aT,aT,aT] true
def isB (o:Option Box) (b:Box):Bool:=match o with|some x=>eqB x b|none=>false
structure ko (kind:Int) (k:Nat) (cl:List Str) (rs:List Rul):Prop where
 ex:∃ (dc dr:D) (bs L2:List (Nat×Box)) (N2:Nat) (H3:aC),@AC1 gtR Tryz.prog 77 [i64 kind] ⟨k,[]⟩ (.agg [dc,dr]) ⟨199999,bs⟩∧ah bs 0=none ∧
  @AC1 gtR Tryz.prog 91 [.agg [dc,dr]] ⟨200005,(200001,td)::(200000,.cells [dc,dr] true)::bs⟩ (i64 0) ⟨N2,L2⟩∧ah L2 200001=some td∧ah L2 200000=some (.cells [dc,dr] true) ∧
  (∀ id b,H3.get id=some b->ah L2 id=some b∧(id != 200001)=true)∧Rd H3 (fun _=>true) (fun _=>none) dc (strs cl)∧Rd H3 (fun _=>true) (fun _=>none) dr (lstS cX rs) ∧
  Rd ⟨199999,bs⟩ (fun _=>true) (fun _=>none) dc (strs cl)∧Rd ⟨199999,bs⟩ (fun _=>true) (fun _=>none) dr (lstS cX rs)
noncomputable def rP (sp:FuncId->List D->Option D) (f:Nat) (dcl drs:D) (d1:D) (h1:HT) (nx1:Nat):Bool:=
 match d1 with
 | .agg [dc,dr]=>Nat.ble nx1 199999&&(match h1.get 0 with|none=>true|some _=>false)&&(fD h1 100000 dc dcl&&fD h1 100000 dr drs) &&
  @lu gtR Tryz.prog (iB Tryz.prog) sp f (.fn 91) [.agg [dc,dr]] ((h1.put 200000 (.cells [dc,dr] true)).put 200001 td) 200005 (fun d2 h2 _=>
   eqD d2 (i64 0)&&isB (h2.get 200001) td&&isB (h2.get 200000) (.cells [dc,dr] true)&&fD (h2.del 200001) 100000 dc dcl&&fD (h2.del 200001) 100000 dr drs)
 | _=>false
theorem CQ {o:Option Box}{b:Box}(h:isB o b=true):o=some b:=by
 unfold isB at h;split at h
 ·rw[@Ck gtR _ _ h]
 ·cases h
theorem ko.of_x {sp:FuncId->List D->Option D}(S:@o6 gtR Tryz.prog sp){kind:Int}{k f f2:Nat}{cl:List Str}{rs:List Rul}(h:@lu gtR Tryz.prog (iB Tryz.prog) sp f (.fn 77) [i64 kind] .emp k (rP sp f2 (strs cl) (lstS cX rs))=true):ko kind k cl rs:=by
 letI:=gtR;obtain⟨d1,h1,nx1,k1,k2⟩:=iP aA T0 S f _ _ _ _ _ h;unfold rP at k2;split at k2
 ·rename_i dc dr;simp only[kC,Nat.ble_eq] at k2;obtain⟨⟨⟨hn,h0⟩,hq⟩,hc⟩:=k2;obtain⟨d2,h2,nx2,c1,c2⟩:=iP aA T0 S f2 _ _ _ _ _ hc;simp only[kC] at c2;obtain⟨⟨⟨⟨e1,e2⟩,e3⟩,e4⟩,e5⟩:=c2;rw[dZ _ _ e1] at c1;have g1:=CQ e2;have g2:=CQ e3
  have hg0:h1.get 0=none:=by
   cases hx:h1.get 0 with
   | none=>rfl
   | some b=>rw[hx] at h0;cases h0
  have hgl:∀ (t:HT) (n i:Nat),ah (t.heap n).bs i=t.get i:=fun t n i=>HT.heap_get
  refine⟨dc,dr,(h1.heap nx1).bs,(h2.heap nx2).bs,nx2,(h2.del 200001).heap 0,AC1.less k1 ⟨hn,fun id box hg=>hg⟩,by rw[hgl];exact hg0,?_,by rw[hgl];exact g1,by rw[hgl];exact g2,fun id b hg=>?_,jG _ _ _ e4,jG _ _ _ e5,jG (m:=199999) _ _ _ hq.1,jG (m:=199999) _ _ _ hq.2⟩
  ·refine AC1.congr (h:=((h1.put 200000 (.cells [dc,dr] true)).put 200001 td).heap 200005) ⟨rfl,fun i=>?_⟩ ⟨rfl,fun i=>rfl⟩ c1;rw[HT.heap_get,HT.get_put,HT.get_put];simp only[aC.get,ah];rw[hgl]
  ·rw[HT.heap_get,HT.get_del] at hg;split at hg
   ·cases hg
   ·rename_i hne;exact⟨by rw[hgl];exact hg,by simpa using fun e=>hne e.symm⟩
 ·cases k2
noncomputable def CD (sp:FuncId->List D->Option D) (f:Nat) (dcl drs:D) (d1:D) (h1:HT) (nx1:Nat):Bool:=
 match d1 with
 | .agg [dc,dr]=>Nat.ble nx1 199999&&(match h1.get 0 with|none=>true|some _=>false)&&(fD h1 100000 dc dcl&&fD h1 100000 dr drs) &&
  iy gtR Tryz.prog (iB Tryz.prog) sp f (.fn 91) [.agg [dc,dr]] ((h1.put 200000 (.cells [dc,dr] true)).put 200001 td) 200005 (fun d2 h2 _=>
   eqD d2 (i64 0)&&isB (h2.get 200001) td&&isB (h2.get 200000) (.cells [dc,dr] true)&&fD (h2.del 200001) 100000 dc dcl&&fD (h2.del 200001) 100000 dr drs)
 | _=>false
theorem ko.of_t {sp:FuncId->List D->Option D}(S:@o6 gtR Tryz.prog sp){kind:Int}{k f f2:Nat}{cl:List Str}{rs:List Rul}(h:iy gtR Tryz.prog (iB Tryz.prog) sp f (.fn 77) [i64 kind] .emp k (CD sp f2 (strs cl) (lstS cX rs))=true):ko kind k cl rs:=by
 have e:CD sp f2 (strs cl) (lstS cX rs)=rP sp f2 (strs cl) (lstS cX rs):=by
  funext d1 h1 nx1;unfold CD rP;rw[qp]
 rw[qp,e] at h;exact ko.of_x S h
end
section
open Go Go.Am Classical
set_option maxRecDepth 100000
theorem E1 {F n:Nat}{rs:List Rul}{L R:Mch}{a b:Aut}(hL:iq true F n n (rs.map (·.left)) ⟨[],[],[]⟩=some L) (hR:iq false F n (n+1) (rs.map (·.right)) ⟨[],[],[]⟩=some R) (oL:okA n L=true) (oR:okA n R=true)
  (aL:jo n L.nx L.ro F 0 [L.hi] [] []=some a) (aR:jo n R.nx R.ro F 0 [R.hi] [] []=some b):comp F n rs=some (a,b):=by
 unfold comp;simp only[hL,hR,oL,oR,and_self,if_true,aL,aR]
theorem z9 (cl:List Str) (acts:List Int) (a b c d:List (List Nat)):aJ (.agg [strs cl,aQ acts,bk a,bk b,bk c,bk d])=true:=by
 letI:=gtR;simp[aJ,aB,aE,aF,bZ]
theorem Dx {kind:Int}{k F:Nat}{cl:List Str}{rs:List Rul}{LN LM RN RM:List (List Nat)}(hk:(kind=1∧k=6)∨(kind=2∧k=8)∨(kind=3∧k=10)∨(kind=4∧k=12)) (hp:ko kind k cl rs) (hF:F<=10000) (hn:cl.length<=999) (hcl0:0<cl.length) (hrl:rs.length<=1000) (hrs0:0<rs.length)
  (h:comp F cl.length rs=some ((LN,LM),(RN,RM))):@Pu gtR Tryz.prog 51 [i64 kind] (.agg [strs cl,aQ (rs.map (·.act)),bk LN,bk LM,bk RN,bk RM]):=by
 letI:=gtR;obtain⟨dc,dr,bs,L2,N2,H3,h1,h2,h3,h4,h5,h6,h7,h8,_,_⟩:=hp.ex;have hc:=Ab hF hn hcl0 hrl hrs0 h h3 h4 h5 h6 h7 h8
 have f1:=h1.frame [(0,td)] (fun j B hj=>by
  simp only[ah] at hj;split at hj
  ·rename_i e;subst e;exact⟨rfl,h2⟩
  ·cases hj)
 have f2:=hc.frame [(0,td)] (fun j B hj=>by
  simp only[ah] at hj;split at hj
  ·rename_i e;subst e;exact⟨h2,rfl⟩
  ·cases hj)
 simp only[List.cons_append,List.nil_append,List.append_nil] at f1 f2;rcases hk with⟨rfl,rfl⟩|⟨rfl,rfl⟩|⟨rfl,rfl⟩|⟨rfl,rfl⟩
 all_goals
  refine Pu.of_v aA T0 Tryz.func51 rfl rfl rfl ?_;repeat' ((conv=>whnf)<;>(first|refine sg ?_|exact kQ|(refine Br.mk ?_ ?_<;>intro _<;>try(exfalso;omega))|refine stq ?_|refine pN ?_|refine Cll.mk ⟨_,_,f1,?_⟩|refine Cll.mk ⟨_,_,f2,?_⟩|fail))
  all_goals(conv=>whnf)
  exact aI.same (z9 _ _ _ _ _ _) rfl
end
section
open Go Go.Am
set_option maxRecDepth 100000
def toN:List Bool->Nat
 | []=>0
 | b::l=>(if b then 1 else 0)+2*toN l
theorem tD:∀ (l:List Bool) (r:Nat),(toN l).testBit r=l.getD r false
 | [],r=>by simp[toN]
 | b::l,0=>by cases b<;>simp[toN,Nat.testBit_zero]<;>omega
 | b::l,r+1=>by
  have h:toN (b::l) / 2=toN l:=by simp only[toN];split<;>omega
  rw[Nat.testBit_succ,h,tD l r];simp
theorem yF:∀ {a b:List Bool},a.length=b.length->toN a=toN b->a=b
 | [],[],_,_=>rfl
 | x::a,y::b,hl,h=>by
  have h1:toN a=toN b:=by simp only[toN] at h;cases x<;>cases y<;>simp at h<;>omega
  have h2:x=y:=by simp only[toN] at h;cases x<;>cases y<;>simp at h ⊢<;>omega
  rw[h2,yF (by simpa using hl) h1]
 | [],_::_,hl,_=>by simp at hl
 | _::_,[],hl,_=>by simp at hl
def C3 (cur:Nat):List Nat->Nat
 | []=>0
 | r::l=>(if cur.testBit r then 1 else 0)+2*C3 cur l
theorem zF {cur:List Bool}{c:Nat}:∀ (next:List (List Nat)),C3 (toN cur) (next.map (·.getD c 0))=toN (nxB next cur c)
 | []=>rfl
 | r::l=>by
  have ih:=zF (cur:=cur) (c:=c) l;simp only[nxB] at ih;simp only[List.map_cons,C3,nxB,toN,tD,ih]
def CY (x:Nat):List Nat->Nat->Option Nat
 | [],_=>none
 | y::l,i=>if Nat.beq x y=true then some i else CY x l (i+1)
def BX (cur:Nat):List (List Nat)->List Nat->List Nat->Option (List Nat×List Nat)
 | [],ss,row=>some (row,ss)
 | col::cols,ss,row=>
  match CY (C3 cur col) ss 0 with
  | some i=>BX cur cols ss (row++[i])
  | none=>if ss.length<400 then BX cur cols (ss++[C3 cur col]) (row++[ss.length]) else none
def B3 (cur:Nat):List Nat->Nat->List Nat
 | [],_=>[]
 | r::l,i=>if cur.testBit r then i::B3 cur l (i+1) else B3 cur l (i+1)
def FB (cols:List (List Nat)) (roots:List Nat):Nat->Nat->List Nat->List (List Nat)->List (List Nat)->Option (List (List Nat)×List (List Nat))
 | 0,_,_,_,_=>none
 | f+1,i,ss,rows,marks=>
  match ss[i]? with
  | none=>some (rows,marks)
  | some cur=>
   match BX cur cols ss [] with
   | none=>none
   | some (row,ss')=>FB cols roots f (i+1) ss' (rows++[row]) (marks++[B3 cur roots 0])
theorem yx {s:List Bool}{N:Nat}(hs:s.length=N):∀ (ss:List (List Bool)) (i:Nat),(∀ t∈ss,t.length=N)->CY (toN s) (ss.map toN) i=if s∈ss then some (i+ss.idxOf s) else none
 | [],i,_=>by simp[CY]
 | t::ss,i,h=>by
  have ih:=yx hs ss (i+1) (fun x hx=>h x (by simp[hx]));simp only[List.map_cons,CY];by_cases e:s=t
  ·subst e;simp
  ·have hne:¬toN s=toN t:=fun hx=>e (yF (by rw[hs,h t (by simp)]) hx)
   rw[if_neg (by simpa using hne),ih];have e':¬t=s:=fun hx=>e hx.symm
   simp only[kH,e,false_or,List.idxOf_cons,beq_eq_false_iff_ne.2 e',cond_false];split
   ·congr 1;omega
   ·rfl
theorem yn {cur:List Bool}:∀ (l:List Nat) (i:Nat),B3 (toN cur) l i=gn cur l i
 | [],_=>rfl
 | r::l,i=>by simp only[B3,gn,tD,yn l (i+1)]
theorem tL {next:List (List Nat)}{cur:List Bool}:∀ (k c:Nat) (ss:List (List Bool)) (row:List Nat),(∀ t∈ss,t.length=next.length) ->
  BX (toN cur) ((List.range' c k).map fun c=>next.map (·.getD c 0)) (ss.map toN) row=(jF next cur k c ss row).map (fun p=>(p.1,p.2.map toN))∧∀ p,jF next cur k c ss row=some p->∀ t∈p.2,t.length=next.length
 | 0,c,ss,row,h=>⟨rfl,fun p hp=>by simp only[jF,kA] at hp;subst hp;exact h⟩
 | k+1,c,ss,row,h=>by
  have hl:(nxB next cur c).length=next.length:=List.length_map _
  simp only[List.range'_succ,List.map_cons,BX,zF,yx hl ss 0 h,jF,Nat.zero_add];by_cases hm:nxB next cur c∈ss
  ·simp only[hm,if_true];exact tL k (c+1) ss _ h
  ·simp only[hm,if_false,List.length_map];by_cases h4:ss.length<400
   ·simp only[h4,if_true]
    have:=tL (next:=next) (cur:=cur) k (c+1) (ss++[nxB next cur c]) (row++[ss.length]) (fun t ht=>by
     rcases List.mem_append.1 ht with ht|ht
     ·exact h t ht
     ·simp at ht;subst ht;exact hl)
    simpa using this
   ·simp only[h4,if_false,Option.map_none];exact⟨trivial,fun p hp=>by cases hp⟩
theorem zP {n:Nat}{next:List (List Nat)}{roots:List Nat}:∀ (f i:Nat) (ss:List (List Bool)) (rows marks:List (List Nat)),(∀ t∈ss,t.length=next.length) ->
  FB ((List.range' 0 n).map fun c=>next.map (·.getD c 0)) roots f i (ss.map toN) rows marks=jo n next roots f i ss rows marks
 | 0,_,_,_,_,_=>rfl
 | f+1,i,ss,rows,marks,h=>by
  simp only[FB,jo,List.getElem?_map];cases hi:ss[i]? with
  | none=>rfl
  | some cur=>
   obtain⟨h1,h2⟩:=tL (cur:=cur) n 0 ss [] h;simp only[kF,h1];cases hr:jF next cur n 0 ss [] with
   | none=>rfl
   | some p=>simp only[kF,yn];exact zP f (i+1) p.2 _ _ (h2 p hr)
theorem DM {n F:Nat}{m:Mch}{cols:List (List Nat)}{x:Nat}{a:Aut}(hc:(List.range' 0 n).map (fun c=>m.nx.map (·.getD c 0))=cols) (hx:toN m.hi=x) (hl:m.hi.length=m.nx.length) (h:FB cols m.ro F 0 [x] [] []=some a):jo n m.nx m.ro F 0 [m.hi] [] []=some a:=by
 rw[<-zP F 0 [m.hi] [] [] (by simpa using hl),hc];simpa [hx] using h
def sx:List Nat->List Nat->List Nat
 | k::v::l,r=>sx l (r.set k v)
 | _,r=>r
def ux:List (Nat×List Nat)->List (List Nat)->List (List Nat)
 | [],a=>a
 | (0,r)::l,a=>ux l (a++[r])
 | (1,n::z::d)::l,a=>ux l (a++[sx d (List.replicate n z)])
 | (1,_)::l,a=>ux l a
 | (j+2,d)::l,a=>ux l (a++[sx d (a.getD j [])])
end
section

end
end Go.Proofs.YtjpgpihbhicinaaGreatDoor
