/-
  Rules parsed by a closed run, and checked behind it.
-/
import Derived.Test.YtbmdndckndnehaaGreatDoorD0
import Derived.Test.YtbmdndckndnehaaGreatDoorAmF
set_option linter.unusedSectionVars false
namespace Go.Proofs.YtbmdndckndnehaaGreatDoor
section
open Go Go.Am
set_option maxRecDepth 100000
abbrev uf:Box:=.cells [aI,aI,aI,aI,aI,aI] true
def isB (o:Option Box) (b:Box):Bool:=match o with|some x=>eqB x b|none=>false
structure dM (kind:Int) (k:Nat) (cl:List Str) (rs:List Rul):Prop where
 ex:∃ (dc dr:D) (bs L2:List (Nat×Box)) (N2:Nat) (H3:aA),@AC1 gtR Tryz.prog 100 [i64 kind] ⟨k,[]⟩ (.agg [dc,dr]) ⟨199999,bs⟩∧aU bs 0=none ∧
  @AC1 gtR Tryz.prog 112 [.agg [dc,dr]] ⟨200005,(200001,uf)::(200000,.cells [dc,dr] true)::bs⟩ (i64 0) ⟨N2,L2⟩∧aU L2 200001=some uf∧aU L2 200000=some (.cells [dc,dr] true) ∧
  (∀ id b,H3.get id=some b->aU L2 id=some b∧(id != 200001)=true)∧Rd H3 (λ_=>true) (λ_=>none) dc (strs cl)∧Rd H3 (λ_=>true) (λ_=>none) dr (lstS bp rs) ∧
  Rd ⟨199999,bs⟩ (λ_=>true) (λ_=>none) dc (strs cl)∧Rd ⟨199999,bs⟩ (λ_=>true) (λ_=>none) dr (lstS bp rs)
noncomputable def sC (sp:FuncId->List D->Option D) (f:Nat) (dcl drs:D) (d1:D) (h1:HT) (nx1:Nat):Bool:=
 match d1 with
 | .agg [dc,dr]=>Nat.ble nx1 199999&&(match h1.get 0 with|none=>true|some _=>false)&&(dW h1 100000 dc dcl&&dW h1 100000 dr drs) &&
  @lm gtR Tryz.prog (ek Tryz.prog) sp f (.fn 112) [.agg [dc,dr]] ((h1.put 200000 (.cells [dc,dr] true)).put 200001 uf) 200005 (λd2 h2 _=>
   eqD d2 (i64 0)&&isB (h2.get 200001) uf&&isB (h2.get 200000) (.cells [dc,dr] true)&&dW (h2.del 200001) 100000 dc dcl&&dW (h2.del 200001) 100000 dr drs)
 | _=>false
theorem EH {o:Option Box}{b:Box}(h:isB o b=true):o=some b:=by
 unfold isB at h;split at h
 ·rw[@Ef gtR _ _ h]
 ·cases h
theorem dM.of_x {sp:FuncId->List D->Option D}(S:@oU gtR Tryz.prog sp){kind:Int}{k f f2:Nat}{cl:List Str}{rs:List Rul}(h:@lm gtR Tryz.prog (ek Tryz.prog) sp f (.fn 100) [i64 kind] .emp k (sC sp f2 (strs cl) (lstS bp rs))=true):dM kind k cl rs:=by
 letI:=gtR;obtain⟨d1,h1,nx1,k1,k2⟩:=iI aB T0 S f _ _ _ _ _ h;unfold sC at k2;split at k2
 ·rename_i dc dr;simp only[kC,Nat.ble_eq] at k2;obtain⟨⟨⟨hn,h0⟩,hq⟩,hc⟩:=k2;obtain⟨d2,h2,nx2,c1,c2⟩:=iI aB T0 S f2 _ _ _ _ _ hc;simp only[kC] at c2;obtain⟨⟨⟨⟨e1,e2⟩,e3⟩,e4⟩,e5⟩:=c2;rw[dB _ _ e1] at c1;have g1:=EH e2;have g2:=EH e3
  have hg0:h1.get 0=none:=by
   cases hx:h1.get 0 with
   | none=>rfl
   | some b=>rw[hx] at h0;cases h0
  have hgl:∀ (t:HT) (n i:Nat),aU (t.heap n).bs i=t.get i:=λt n i=>HT.heap_get
  refine⟨dc,dr,(h1.heap nx1).bs,(h2.heap nx2).bs,nx2,(h2.del 200001).heap 0,AC1.less k1 ⟨hn,λid box hg=>hg⟩,by rw[hgl];exact hg0,?_,by rw[hgl];exact g1,by rw[hgl];exact g2,λid b hg=>?_,i4 _ _ _ e4,i4 _ _ _ e5,i4 (m:=199999) _ _ _ hq.1,i4 (m:=199999) _ _ _ hq.2⟩
  ·refine AC1.congr (h:=((h1.put 200000 (.cells [dc,dr] true)).put 200001 uf).heap 200005) ⟨rfl,λi=>?_⟩ ⟨rfl,λi=>rfl⟩ c1;rw[HT.heap_get,HT.get_put,HT.get_put];simp only[aA.get,aU];rw[hgl]
  ·rw[HT.heap_get,HT.get_del] at hg;split at hg
   ·cases hg
   ·rename_i hne;exact⟨by rw[hgl];exact hg,by simpa using λe=>hne e.symm⟩
 ·cases k2
noncomputable def D2 (sp:FuncId->List D->Option D) (f:Nat) (dcl drs:D) (d1:D) (h1:HT) (nx1:Nat):Bool:=
 match d1 with
 | .agg [dc,dr]=>Nat.ble nx1 199999&&(match h1.get 0 with|none=>true|some _=>false)&&(dW h1 100000 dc dcl&&dW h1 100000 dr drs) &&
  ef gtR Tryz.prog (ek Tryz.prog) sp f (.fn 112) [.agg [dc,dr]] ((h1.put 200000 (.cells [dc,dr] true)).put 200001 uf) 200005 (λd2 h2 _=>
   eqD d2 (i64 0)&&isB (h2.get 200001) uf&&isB (h2.get 200000) (.cells [dc,dr] true)&&dW (h2.del 200001) 100000 dc dcl&&dW (h2.del 200001) 100000 dr drs)
 | _=>false
theorem dM.pu {kind:Int}{k:Nat}{cl:List Str}{rs:List Rul}(hp:dM kind k cl rs):@Pu gtR Tryz.prog 100 [i64 kind] (.agg [strs cl,lstS bp rs]):=by
 letI:=gtR;obtain⟨dc,dr,bs,L2,N2,H3,h1,h2,h3,h4,h5,h6,h7,h8,h9,h10⟩:=hp.ex;exact Pu.of_ac rfl (h1.low (Nat.zero_le _)) (.agg (.cons h9 (.cons h10 .nil)))
theorem dM.of_t {sp:FuncId->List D->Option D}(S:@oU gtR Tryz.prog sp){kind:Int}{k f f2:Nat}{cl:List Str}{rs:List Rul}(h:ef gtR Tryz.prog (ek Tryz.prog) sp f (.fn 100) [i64 kind] .emp k (D2 sp f2 (strs cl) (lstS bp rs))=true):dM kind k cl rs:=by
 have e:D2 sp f2 (strs cl) (lstS bp rs)=sC sp f2 (strs cl) (lstS bp rs):=by
  funext d1 h1 nx1;unfold D2 sC;rw[ki]
 rw[ki,e] at h;exact dM.of_x S h
end
section
open Go Go.Am Classical
set_option maxRecDepth 100000
theorem py {F n:Nat}{rs:List Rul}{L R:Mch}{a b:Aut}(hL:eV true F n n (rs.map (·.left)) ⟨[],[],[]⟩=some L) (hR:eV false F n (n+1) (rs.map (·.right)) ⟨[],[],[]⟩=some R) (oL:okA n L=true) (oR:okA n R=true)
  (aL:fk n L.nx L.ro F 0 [L.hi] [] []=some a) (aR:fk n R.nx R.ro F 0 [R.hi] [] []=some b):comp F n rs=some (a,b):=by
 unfold comp;simp only[hL,hR,oL,oR,and_self,if_true,aL,aR]
theorem Bc (cl:List Str) (acts:List Int) (a b c d:List (List Nat)):aK (.agg [strs cl,aF acts,bS a,bS b,bS c,bS d])=true:=by
 letI:=gtR;simp[aK,aD,aW,aM,d6]
theorem pT {kind:Int}{k F:Nat}{cl:List Str}{rs:List Rul}{LN LM RN RM:List (List Nat)}(hk:(kind=1∧k=6)∨(kind=2∧k=8)∨(kind=3∧k=10)∨(kind=4∧k=12)) (hp:dM kind k cl rs) (hF:F<=10000) (hn:cl.length<=999) (hcl0:0<cl.length) (hrl:rs.length<=1000) (hrs0:0<rs.length)
  (h:comp F cl.length rs=some ((LN,LM),(RN,RM))):@Pu gtR Tryz.prog 66 [i64 kind] (.agg [strs cl,aF (rs.map (·.act)),bS LN,bS LM,bS RN,bS RM]):=by
 letI:=gtR;obtain⟨dc,dr,bs,L2,N2,H3,h1,h2,h3,h4,h5,h6,h7,h8,_,_⟩:=hp.ex;have hc:=CB hF hn hcl0 hrl hrs0 h h3 h4 h5 h6 h7 h8
 have f1:=h1.frame [(0,uf)] (λj B hj=>by
  simp only[aU] at hj;split at hj
  ·rename_i e;subst e;exact⟨rfl,h2⟩
  ·cases hj)
 have f2:=hc.frame [(0,uf)] (λj B hj=>by
  simp only[aU] at hj;split at hj
  ·rename_i e;subst e;exact⟨h2,rfl⟩
  ·cases hj)
 simp only[List.cons_append,List.nil_append,List.append_nil] at f1 f2;rcases hk with⟨rfl,rfl⟩|⟨rfl,rfl⟩|⟨rfl,rfl⟩|⟨rfl,rfl⟩
 all_goals
  refine pv Tryz.func66 ?_;repeat' ((conv=>whnf);first|exact kQ|(refine bk ?_ ?_<;>intro _<;>try(exfalso;omega))|refine stq ?_|refine p9 ?_|refine Cll.mk ⟨_,_,f1,?_⟩|refine Cll.mk ⟨_,_,f2,?_⟩|fail)
  all_goals(conv=>whnf)
  exact aC.same (Bc _ _ _ _ _ _) rfl
end
section
open Go Go.Am
set_option maxRecDepth 100000
def toN:List Bool->Nat
 | []=>0
 | b::l=>(if b then 1 else 0)+2*toN l
theorem uD:∀ (l:List Bool) (r:Nat),(toN l).testBit r=l.getD r false
 | [],r=>by simp[toN]
 | b::l,0=>by cases b<;>simp[toN,Nat.testBit_zero]<;>omega
 | b::l,r+1=>by
  have h:toN (b::l) / 2=toN l:=by simp only[toN];split<;>omega
  rw[Nat.testBit_succ,h,uD l r];simp
theorem zV:∀ {a b:List Bool},a.length=b.length->toN a=toN b->a=b
 | [],[],_,_=>rfl
 | x::a,y::b,hl,h=>by
  have h1:toN a=toN b:=by simp only[toN] at h;cases x<;>cases y<;>simp at h<;>omega
  have h2:x=y:=by simp only[toN] at h;cases x<;>cases y<;>simp at h ⊢<;>omega
  rw[h2,zV (by simpa using hl) h1]
 | [],_::_,hl,_=>by simp at hl
 | _::_,[],hl,_=>by simp at hl
def Ew (cur:Nat):List Nat->Nat
 | []=>0
 | r::l=>(if cur.testBit r then 1 else 0)+2*Ew cur l
theorem Aa {cur:List Bool}{c:Nat}:∀ (next:List (List Nat)),Ew (toN cur) (next.map (·.getD c 0))=toN (nxB next cur c)
 | []=>rfl
 | r::l=>by
  have ih:=Aa (cur:=cur) (c:=c) l;simp only[nxB] at ih;simp only[List.map_cons,Ew,nxB,toN,uD,ih]
def EQ (x:Nat):List Nat->Nat->Option Nat
 | [],_=>none
 | y::l,i=>if Nat.beq x y=true then some i else EQ x l (i+1)
def DO (cur:Nat):List (List Nat)->List Nat->List Nat->Option (List Nat×List Nat)
 | [],ss,row=>some (row,ss)
 | col::cols,ss,row=>
  match EQ (Ew cur col) ss 0 with
  | some i=>DO cur cols ss (row++[i])
  | none=>if ss.length<400 then DO cur cols (ss++[Ew cur col]) (row++[ss.length]) else none
def Dt (cur:Nat):List Nat->Nat->List Nat
 | [],_=>[]
 | r::l,i=>if cur.testBit r then i::Dt cur l (i+1) else Dt cur l (i+1)
def HQ (cols:List (List Nat)) (roots:List Nat):Nat->Nat->List Nat->List (List Nat)->List (List Nat)->Option (List (List Nat)×List (List Nat))
 | 0,_,_,_,_=>none
 | f+1,i,ss,rows,marks=>
  match ss[i]? with
  | none=>some (rows,marks)
  | some cur=>
   match DO cur cols ss [] with
   | none=>none
   | some (row,ss')=>HQ cols roots f (i+1) ss' (rows++[row]) (marks++[Dt cur roots 0])
theorem AM {s:List Bool}{N:Nat}(hs:s.length=N):∀ (ss:List (List Bool)) (i:Nat),(∀ t∈ss,t.length=N)->EQ (toN s) (ss.map toN) i=if s∈ss then some (i+ss.idxOf s) else none
 | [],i,_=>by simp[EQ]
 | t::ss,i,h=>by
  have ih:=AM hs ss (i+1) (λx hx=>h x (by simp[hx]));simp only[List.map_cons,EQ];by_cases e:s=t
  ·subst e;simp
  ·have hne:¬toN s=toN t:=λhx=>e (zV (by rw[hs,h t si]) hx)
   rw[if_neg (by simpa using hne),ih];have e':¬t=s:=λhx=>e hx.symm
   simp only[kH,e,false_or,List.idxOf_cons,beq_eq_false_iff_ne.2 e',cond_false];split
   ·congr 1;omega
   ·rfl
theorem AG {cur:List Bool}:∀ (l:List Nat) (i:Nat),Dt (toN cur) l i=gg cur l i
 | [],_=>rfl
 | r::l,i=>by simp only[Dt,gg,uD,AG l (i+1)]
theorem uM {next:List (List Nat)}{cur:List Bool}:∀ (k c:Nat) (ss:List (List Bool)) (row:List Nat),(∀ t∈ss,t.length=next.length) ->
  DO (toN cur) ((List.range' c k).map λc=>next.map (·.getD c 0)) (ss.map toN) row=(iz next cur k c ss row).map (λp=>(p.1,p.2.map toN))∧∀ p,iz next cur k c ss row=some p->∀ t∈p.2,t.length=next.length
 | 0,c,ss,row,h=>⟨rfl,λp hp=>by simp only[iz,kA] at hp;subst hp;exact h⟩
 | k+1,c,ss,row,h=>by
  have hl:(nxB next cur c).length=next.length:=List.length_map _
  simp only[List.range'_succ,List.map_cons,DO,Aa,AM hl ss 0 h,iz,Nat.zero_add];by_cases hm:nxB next cur c∈ss
  ·simp only[hm,if_true];exact uM k (c+1) ss _ h
  ·simp only[hm,if_false,List.length_map];by_cases h4:ss.length<400
   ·simp only[h4,if_true]
    have:=uM (next:=next) (cur:=cur) k (c+1) (ss++[nxB next cur c]) (row++[ss.length]) (λt ht=>by
     rcases List.mem_append.1 ht with ht|ht
     ·exact h t ht
     ·simp at ht;subst ht;exact hl)
    simpa using this
   ·simp only[h4,if_false,Option.map_none];exact⟨trivial,λp hp=>by cases hp⟩
theorem An {n:Nat}{next:List (List Nat)}{roots:List Nat}:∀ (f i:Nat) (ss:List (List Bool)) (rows marks:List (List Nat)),(∀ t∈ss,t.length=next.length) ->
  HQ ((List.range' 0 n).map λc=>next.map (·.getD c 0)) roots f i (ss.map toN) rows marks=fk n next roots f i ss rows marks
 | 0,_,_,_,_,_=>rfl
 | f+1,i,ss,rows,marks,h=>by
  simp only[HQ,fk,List.getElem?_map];cases hi:ss[i]? with
  | none=>rfl
  | some cur=>
   obtain⟨h1,h2⟩:=uM (cur:=cur) n 0 ss [] h;simp only[kF,h1];cases hr:iz next cur n 0 ss [] with
   | none=>rfl
   | some p=>simp only[kF,AG];exact An f (i+1) p.2 _ _ (h2 p hr)
theorem kn {n F:Nat}{m:Mch}{cols:List (List Nat)}{x:Nat}{a:Aut}(hc:(List.range' 0 n).map (λc=>m.nx.map (·.getD c 0))=cols) (hx:toN m.hi=x) (hl:m.hi.length=m.nx.length) (h:HQ cols m.ro F 0 [x] [] []=some a):fk n m.nx m.ro F 0 [m.hi] [] []=some a:=by
 rw[<-An F 0 [m.hi] [] [] (by simpa using hl),hc];simpa [hx] using h
def sx:List Nat->List Nat->List Nat
 | k::v::l,r=>sx l (r.set k v)
 | _,r=>r
def ux:List (Nat×List Nat)->List (List Nat)->List (List Nat)
 | [],a=>a
 | (0,r)::l,a=>ux l (a++[r])
 | (1,n::z::d)::l,a=>ux l (a++[sx d (List.replicate n z)])
 | (1,_)::l,a=>ux l a
 | (j+2,d)::l,a=>ux l (a++[sx d (a.getD j [])])
end
section
open Go Go.Am
set_option maxRecDepth 100000
noncomputable def se:List (Str×List Str)->Bool
 | []=>true
 | (l,t)::r=>ef gtR Tryz.prog (ek Tryz.prog) spC 100 (.fn 193) [.str l] .emp 0 (λd h _=>dW h 100000 d (strs t))&&se r
theorem vq:∀ {T:List (Str×List Str)},se T=true->∀ p∈T,@Pu gtR Tryz.prog 193 [.str p.1] (strs p.2)
 | [],_,p,hp=>by simp at hp
 | (l,t)::r,h,p,hp=>by
  simp only[se,kC] at h;rcases List.mem_cons.1 hp with rfl|hp
  ·letI:=gtR;exact Pu.of_t aB T0 dV rfl h.1
  ·exact vq h.2 p hp
def wZ (l:Str):List (Str×List Str)->Option (List Str)
 | []=>none
 | p::r=>if iA l p.1=true then some p.2 else wZ l r
theorem tG {l:Str}{t:List Str}:∀ {T:List (Str×List Str)},wZ l T=some t->(l,t)∈T
 | [],h=>by simp[wZ] at h
 | p::r,h=>by
  letI:=gtR;simp only[wZ] at h;split at h
  ·rename_i e;injection h with h
   rw[cD.1 e,<-h];simp
  ·exact List.mem_cons_of_mem _ (tG h)
noncomputable def spL (T:List (Str×List Str)) (g:FuncId) (ds:List D):Option D:=
 if Nat.beq g 193=true then
  match ds with
  | [.str l]=>(match wZ l T with|some t=>some (strs t)|none=>none)
  | _=>none
 else spC g ds
theorem DC {T:List (Str×List Str)}(h:se T=true):@oU gtR Tryz.prog (spL T):=λg ds d hd=>by
 unfold spL at hd;split at hd
 ·rename_i hg;obtain rfl:=Nat.eq_of_beq_eq_true hg;split at hd
  ·split at hd
   ·rename_i t ht;injection hd with hd;subst hd
    exact vq h _ (tG ht)
   ·cases hd
  ·cases hd
 ·exact dV g ds d hd
end
section
abbrev rq (n x:Nat):List Nat:=List.replicate n x
end
section
open Go Go.Am
set_option maxRecDepth 1000000
def sc2:List (Str×List Str):=[
 ([107,101,101,112,32,67,82,32,47,32,76,70],[[107,101,101,112],[67,82],[47],[76,70]]),
 ([98,114,101,97,107,32,91,67,82,32,76,70,32,78,101,119,108,105,110,101,93,32,47],[[98,114,101,97,107],[91],[67,82],[76,70],[78,101,119,108,105,110,101],[93],[47]]),
 ([98,114,101,97,107,32,47,32,91,67,82,32,76,70,32,78,101,119,108,105,110,101,93],[[98,114,101,97,107],[47],[91],[67,82],[76,70],[78,101,119,108,105,110,101],[93]]),
 ([107,101,101,112,32,83,112,97,99,101,32,47,32,83,112,97,99,101],[[107,101,101,112],[83,112,97,99,101],[47],[83,112,97,99,101]]),
 ([97,116,116,97,99,104,32,91,69,120,116,101,110,100,32,74,111,105,110,101,114,32,70,111,114,109,97,116,93],[[97,116,116,97,99,104],[91],[69,120,116,101,110,100],[74,111,105,110,101,114],[70,111,114,109,97,116],[93]]),
 ([108,101,116,116,101,114,32,61,32,91,76,101,116,116,101,114,32,72,101,98,114,101,119,93],[[108,101,116,116,101,114],[61],[91],[76,101,116,116,101,114],[72,101,98,114,101,119],[93]]),
 ([109,105,100,100,108,101,32,61,32,91,77,105,100,76,101,116,116,101,114,32,77,105,100,66,111,116,104,32,83,105,110,103,108,101,93],[[109,105,100,100,108,101],[61],[91],[77,105,100,76,101,116,116,101,114],[77,105,100,66,111,116,104],[83,105,110,103,108,101],[93]]),
 ([112,111,105,110,116,32,61,32,91,77,105,100,78,117,109,98,101,114,32,77,105,100,66,111,116,104,32,83,105,110,103,108,101,93],[[112,111,105,110,116],[61],[91],[77,105,100,78,117,109,98,101,114],[77,105,100,66,111,116,104],[83,105,110,103,108,101],[93]]),
 ([107,101,101,112,32,108,101,116,116,101,114,32,47,32,108,101,116,116,101,114],[[107,101,101,112],[108,101,116,116,101,114],[47],[108,101,116,116,101,114]]),
 ([107,101,101,112,32,108,101,116,116,101,114,32,47,32,109,105,100,100,108,101,32,108,101,116,116,101,114],[[107,101,101,112],[108,101,116,116,101,114],[47],[109,105,100,100,108,101],[108,101,116,116,101,114]]),
 ([107,101,101,112,32,108,101,116,116,101,114,32,109,105,100,100,108,101,32,47,32,108,101,116,116,101,114],[[107,101,101,112],[108,101,116,116,101,114],[109,105,100,100,108,101],[47],[108,101,116,116,101,114]]),
 ([107,101,101,112,32,72,101,98,114,101,119,32,47,32,83,105,110,103,108,101],[[107,101,101,112],[72,101,98,114,101,119],[47],[83,105,110,103,108,101]]),
 ([107,101,101,112,32,72,101,98,114,101,119,32,47,32,68,111,117,98,108,101,32,72,101,98,114,101,119],[[107,101,101,112],[72,101,98,114,101,119],[47],[68,111,117,98,108,101],[72,101,98,114,101,119]]),
 ([107,101,101,112,32,72,101,98,114,101,119,32,68,111,117,98,108,101,32,47,32,72,101,98,114,101,119],[[107,101,101,112],[72,101,98,114,101,119],[68,111,117,98,108,101],[47],[72,101,98,114,101,119]]),
 ([107,101,101,112,32,78,117,109,101,114,105,99,32,47,32,78,117,109,101,114,105,99],[[107,101,101,112],[78,117,109,101,114,105,99],[47],[78,117,109,101,114,105,99]]),
 ([107,101,101,112,32,108,101,116,116,101,114,32,47,32,78,117,109,101,114,105,99],[[107,101,101,112],[108,101,116,116,101,114],[47],[78,117,109,101,114,105,99]]),
 ([107,101,101,112,32,78,117,109,101,114,105,99,32,47,32,108,101,116,116,101,114],[[107,101,101,112],[78,117,109,101,114,105,99],[47],[108,101,116,116,101,114]]),
 ([107,101,101,112,32,78,117,109,101,114,105,99,32,112,111,105,110,116,32,47,32,78,117,109,101,114,105,99],[[107,101,101,112],[78,117,109,101,114,105,99],[112,111,105,110,116],[47],[78,117,109,101,114,105,99]]),
 ([107,101,101,112,32,78,117,109,101,114,105,99,32,47,32,112,111,105,110,116,32,78,117,109,101,114,105,99],[[107,101,101,112],[78,117,109,101,114,105,99],[47],[112,111,105,110,116],[78,117,109,101,114,105,99]]),
 ([107,101,101,112,32,75,97,116,97,107,97,110,97,32,47,32,75,97,116,97,107,97,110,97],[[107,101,101,112],[75,97,116,97,107,97,110,97],[47],[75,97,116,97,107,97,110,97]]),
 ([107,101,101,112,32,91,76,101,116,116,101,114,32,72,101,98,114,101,119,32,78,117,109,101,114,105,99,32,75,97,116,97,107,97,110,97,32,67,111,110,110,101,99,116,111,114,93,32,47,32,67,111,110,110,101,99,116,111,114],[[107,101,101,112],[91],[76,101,116,116,101,114],[72,101,98,114,101,119],[78,117,109,101,114,105,99],[75,97,116,97,107,97,110,97],[67,111,110,110,101,99,116,111,114],[93],[47],[67,111,110,110,101,99,116,111,114]]),
 ([107,101,101,112,32,67,111,110,110,101,99,116,111,114,32,47,32,91,76,101,116,116,101,114,32,72,101,98,114,101,119,32,78,117,109,101,114,105,99,32,75,97,116,97,107,97,110,97,93],[[107,101,101,112],[67,111,110,110,101,99,116,111,114],[47],[91],[76,101,116,116,101,114],[72,101,98,114,101,119],[78,117,109,101,114,105,99],[75,97,116,97,107,97,110,97],[93]]),
 ([107,101,101,112,32,115,116,97,114,116,32,91,69,120,116,101,110,100,32,74,111,105,110,101,114,32,70,111,114,109,97,116,93,42,32,40,82,101,103,105,111,110,32,82,101,103,105,111,110,41,42,32,82,101,103,105,111,110,32,47,32,82,101,103,105,111,110],[[107,101,101,112],[115,116,97,114,116],[91],[69,120,116,101,110,100],[74,111,105,110,101,114],[70,111,114,109,97,116],[93],[42],[40],[82,101,103,105,111,110],[82,101,103,105,111,110],[41],[42],[82,101,103,105,111,110],[47],[82,101,103,105,111,110]]),
 ([107,101,101,112,32,91,94,82,101,103,105,111,110,32,69,120,116,101,110,100,32,74,111,105,110,101,114,32,70,111,114,109,97,116,93,32,40,82,101,103,105,111,110,32,82,101,103,105,111,110,41,42,32,82,101,103,105,111,110,32,47,32,82,101,103,105,111,110],[[107,101,101,112],[91],[94],[82,101,103,105,111,110],[69,120,116,101,110,100],[74,111,105,110,101,114],[70,111,114,109,97,116],[93],[40],[82,101,103,105,111,110],[82,101,103,105,111,110],[41],[42],[82,101,103,105,111,110],[47],[82,101,103,105,111,110]]),
 ([98,114,101,97,107,32,47],[[98,114,101,97,107],[47]]),
 ([],[])
]
theorem scan2:se sc2=true:=by kernel_rfl
end
section
open Go Go.Am
set_option maxRecDepth 1000000
def sc4:List (Str×List Str):=[
 ([109,117,115,116,32,77,97,110,100,97,116,111,114,121,32,47],[[109,117,115,116],[77,97,110,100,97,116,111,114,121],[47]]),
 ([107,101,101,112,32,67,82,32,47,32,76,70],[[107,101,101,112],[67,82],[47],[76,70]]),
 ([109,117,115,116,32,91,67,82,32,76,70,32,78,101,119,108,105,110,101,93,32,47],[[109,117,115,116],[91],[67,82],[76,70],[78,101,119,108,105,110,101],[93],[47]]),
 ([107,101,101,112,32,47,32,91,77,97,110,100,97,116,111,114,121,32,67,82,32,76,70,32,78,101,119,108,105,110,101,93],[[107,101,101,112],[47],[91],[77,97,110,100,97,116,111,114,121],[67,82],[76,70],[78,101,119,108,105,110,101],[93]]),
 ([107,101,101,112,32,47,32,91,83,112,97,99,101,32,90,101,114,111,83,112,97,99,101,93],[[107,101,101,112],[47],[91],[83,112,97,99,101],[90,101,114,111,83,112,97,99,101],[93]]),
 ([98,114,101,97,107,32,90,101,114,111,83,112,97,99,101,32,83,112,97,99,101,42,32,47],[[98,114,101,97,107],[90,101,114,111,83,112,97,99,101],[83,112,97,99,101],[42],[47]]),
 ([107,101,101,112,32,74,111,105,110,101,114,32,47],[[107,101,101,112],[74,111,105,110,101,114],[47]]),
 ([98,114,101,97,107,32,83,112,97,99,101,32,47,32,91,67,111,109,98,105,110,105,110,103,32,74,111,105,110,101,114,93],[[98,114,101,97,107],[83,112,97,99,101],[47],[91],[67,111,109,98,105,110,105,110,103],[74,111,105,110,101,114],[93]]),
 ([97,116,116,97,99,104,32,91,67,111,109,98,105,110,105,110,103,32,74,111,105,110,101,114,93],[[97,116,116,97,99,104],[91],[67,111,109,98,105,110,105,110,103],[74,111,105,110,101,114],[93]]),
 ([107,101,101,112,32,47,32,87,111,114,100,74,111,105,110,101,114],[[107,101,101,112],[47],[87,111,114,100,74,111,105,110,101,114]]),
 ([107,101,101,112,32,87,111,114,100,74,111,105,110,101,114,32,47],[[107,101,101,112],[87,111,114,100,74,111,105,110,101,114],[47]]),
 ([107,101,101,112,32,71,108,117,101,32,47],[[107,101,101,112],[71,108,117,101],[47]]),
 ([107,101,101,112,32,91,94,83,112,97,99,101,32,65,102,116,101,114,32,72,121,112,104,101,110,32,67,111,109,98,105,110,105,110,103,32,74,111,105,110,101,114,93,32,47,32,71,108,117,101],[[107,101,101,112],[91],[94],[83,112,97,99,101],[65,102,116,101,114],[72,121,112,104,101,110],[67,111,109,98,105,110,105,110,103],[74,111,105,110,101,114],[93],[47],[71,108,117,101]]),
 ([107,101,101,112,32,47,32,91,67,108,111,115,101,80,32,69,120,99,108,97,109,32,73,110,102,105,120,32,83,121,109,98,111,108,93],[[107,101,101,112],[47],[91],[67,108,111,115,101,80],[69,120,99,108,97,109],[73,110,102,105,120],[83,121,109,98,111,108],[93]]),
 ([107,101,101,112,32,79,112,101,110,32,83,112,97,99,101,42,32,47],[[107,101,101,112],[79,112,101,110],[83,112,97,99,101],[42],[47]]),
 ([107,101,101,112,32,81,117,111,116,101,32,83,112,97,99,101,42,32,47,32,79,112,101,110],[[107,101,101,112],[81,117,111,116,101],[83,112,97,99,101],[42],[47],[79,112,101,110]]),
 ([107,101,101,112,32,67,108,111,115,101,80,32,83,112,97,99,101,42,32,47,32,78,111,110,83,116,97,114,116,101,114],[[107,101,101,112],[67,108,111,115,101,80],[83,112,97,99,101],[42],[47],[78,111,110,83,116,97,114,116,101,114]]),
 ([107,101,101,112,32,66,111,116,104,32,83,112,97,99,101,42,32,47,32,66,111,116,104],[[107,101,101,112],[66,111,116,104],[83,112,97,99,101],[42],[47],[66,111,116,104]]),
 ([98,114,101,97,107,32,83,112,97,99,101,32,47],[[98,114,101,97,107],[83,112,97,99,101],[47]]),
 ([107,101,101,112,32,47,32,81,117,111,116,101],[[107,101,101,112],[47],[81,117,111,116,101]]),
 ([107,101,101,112,32,81,117,111,116,101,32,47],[[107,101,101,112],[81,117,111,116,101],[47]]),
 ([107,101,101,112,32,47,32,91,65,102,116,101,114,32,72,121,112,104,101,110,32,78,111,110,83,116,97,114,116,101,114,93],[[107,101,101,112],[47],[91],[65,102,116,101,114],[72,121,112,104,101,110],[78,111,110,83,116,97,114,116,101,114],[93]]),
 ([107,101,101,112,32,66,101,102,111,114,101,32,47],[[107,101,101,112],[66,101,102,111,114,101],[47]]),
 ([107,101,101,112,32,47,32,73,110,115,101,112,97,114,97,98,108,101],[[107,101,101,112],[47],[73,110,115,101,112,97,114,97,98,108,101]]),
 ([107,101,101,112,32,79,116,104,101,114,32,47,32,78,117,109,101,114,105,99],[[107,101,101,112],[79,116,104,101,114],[47],[78,117,109,101,114,105,99]]),
 ([107,101,101,112,32,78,117,109,101,114,105,99,32,47,32,79,116,104,101,114],[[107,101,101,112],[78,117,109,101,114,105,99],[47],[79,116,104,101,114]]),
 ([107,101,101,112,32,80,114,101,102,105,120,32,47,32,73,100,101,111,103,114,97,112,104],[[107,101,101,112],[80,114,101,102,105,120],[47],[73,100,101,111,103,114,97,112,104]]),
 ([107,101,101,112,32,73,100,101,111,103,114,97,112,104,32,47,32,80,111,115,116,102,105,120],[[107,101,101,112],[73,100,101,111,103,114,97,112,104],[47],[80,111,115,116,102,105,120]]),
 ([107,101,101,112,32,91,80,114,101,102,105,120,32,80,111,115,116,102,105,120,93,32,47,32,79,116,104,101,114],[[107,101,101,112],[91],[80,114,101,102,105,120],[80,111,115,116,102,105,120],[93],[47],[79,116,104,101,114]]),
 ([107,101,101,112,32,79,116,104,101,114,32,47,32,91,80,114,101,102,105,120,32,80,111,115,116,102,105,120,93],[[107,101,101,112],[79,116,104,101,114],[47],[91],[80,114,101,102,105,120],[80,111,115,116,102,105,120],[93]]),
 ([107,101,101,112,32,91,67,108,111,115,101,80,32,78,117,109,101,114,105,99,93,32,47,32,91,80,114,101,102,105,120,32,80,111,115,116,102,105,120,93],[[107,101,101,112],[91],[67,108,111,115,101,80],[78,117,109,101,114,105,99],[93],[47],[91],[80,114,101,102,105,120],[80,111,115,116,102,105,120],[93]]),
 ([107,101,101,112,32,91,80,114,101,102,105,120,32,80,111,115,116,102,105,120,93,32,47,32,91,79,112,101,110,32,78,117,109,101,114,105,99,93],[[107,101,101,112],[91],[80,114,101,102,105,120],[80,111,115,116,102,105,120],[93],[47],[91],[79,112,101,110],[78,117,109,101,114,105,99],[93]]),
 ([107,101,101,112,32,91,72,121,112,104,101,110,32,73,110,102,105,120,32,78,117,109,101,114,105,99,32,83,121,109,98,111,108,93,32,47,32,78,117,109,101,114,105,99],[[107,101,101,112],[91],[72,121,112,104,101,110],[73,110,102,105,120],[78,117,109,101,114,105,99],[83,121,109,98,111,108],[93],[47],[78,117,109,101,114,105,99]]),
 ([107,101,101,112,32,79,116,104,101,114,32,47,32,79,116,104,101,114],[[107,101,101,112],[79,116,104,101,114],[47],[79,116,104,101,114]]),
 ([107,101,101,112,32,73,110,102,105,120,32,47,32,79,116,104,101,114],[[107,101,101,112],[73,110,102,105,120],[47],[79,116,104,101,114]]),
 ([107,101,101,112,32,91,79,116,104,101,114,32,78,117,109,101,114,105,99,93,32,47,32,79,112,101,110],[[107,101,101,112],[91],[79,116,104,101,114],[78,117,109,101,114,105,99],[93],[47],[79,112,101,110]]),
 ([107,101,101,112,32,67,108,111,115,101,80,32,47,32,91,79,116,104,101,114,32,78,117,109,101,114,105,99,93],[[107,101,101,112],[67,108,111,115,101,80],[47],[91],[79,116,104,101,114],[78,117,109,101,114,105,99],[93]]),
 ([107,101,101,112,32,115,116,97,114,116,32,40,82,101,103,105,111,110,32,82,101,103,105,111,110,41,42,32,82,101,103,105,111,110,32,47,32,82,101,103,105,111,110],[[107,101,101,112],[115,116,97,114,116],[40],[82,101,103,105,111,110],[82,101,103,105,111,110],[41],[42],[82,101,103,105,111,110],[47],[82,101,103,105,111,110]]),
 ([107,101,101,112,32,91,94,82,101,103,105,111,110,32,67,111,109,98,105,110,105,110,103,32,74,111,105,110,101,114,93,32,40,82,101,103,105,111,110,32,82,101,103,105,111,110,41,42,32,82,101,103,105,111,110,32,47,32,82,101,103,105,111,110],[[107,101,101,112],[91],[94],[82,101,103,105,111,110],[67,111,109,98,105,110,105,110,103],[74,111,105,110,101,114],[93],[40],[82,101,103,105,111,110],[82,101,103,105,111,110],[41],[42],[82,101,103,105,111,110],[47],[82,101,103,105,111,110]]),
 ([],[])
]
theorem scan4:se sc4=true:=by kernel_rfl
end
end Go.Proofs.YtbmdndckndnehaaGreatDoor
