/-
  Rules parsed by a closed run, and checked behind it.
-/
import Derived.Test.YtbmdndckndnehaaGreatDoorD0
import Derived.Test.YtbmdndckndnehaaGreatDoorAmF
set_option linter.unusedSectionVars false
namespace Go.Proofs.YtbmdndckndnehaaGreatDoor
section
open Go Go.Am
set_option maxRecDepth 100000
abbrev vw:Box:=.cells [aJ,aJ,aJ,aJ,aJ,aJ] true
def isB (o:Option Box) (b:Box):Bool:=match o with|some x=>eqB x b|none=>false
structure iU (kind:Int) (k:Nat) (cl:List Str) (rs:List Rul):Prop where
 ex:∃ (dc dr:D) (bs L2:List (Nat×Box)) (N2:Nat) (H3:aA),@AC1 gtR Tryz.prog 100 [i64 kind] ⟨k,[]⟩ (.agg [dc,dr]) ⟨199999,bs⟩∧aV bs 0=none ∧
  @AC1 gtR Tryz.prog 112 [.agg [dc,dr]] ⟨200005,(200001,vw)::(200000,.cells [dc,dr] true)::bs⟩ (i64 0) ⟨N2,L2⟩∧aV L2 200001=some vw∧aV L2 200000=some (.cells [dc,dr] true) ∧
  (∀ id b,H3.get id=some b->aV L2 id=some b∧(id != 200001)=true)∧Rd H3 (λ_=>true) (λ_=>none) dc (strs cl)∧Rd H3 (λ_=>true) (λ_=>none) dr (lstS cF rs) ∧
  Rd ⟨199999,bs⟩ (λ_=>true) (λ_=>none) dc (strs cl)∧Rd ⟨199999,bs⟩ (λ_=>true) (λ_=>none) dr (lstS cF rs)
noncomputable def tV (sp:FuncId->List D->Option D) (f:Nat) (dcl drs:D) (d1:D) (h1:HT) (nx1:Nat):Bool:=
 match d1 with
 | .agg [dc,dr]=>Nat.ble nx1 199999&&(match h1.get 0 with|none=>true|some _=>false)&&(ek h1 100000 dc dcl&&ek h1 100000 dr drs) &&
  @mX gtR Tryz.prog (fD Tryz.prog) sp f (.fn 112) [.agg [dc,dr]] ((h1.put 200000 (.cells [dc,dr] true)).put 200001 vw) 200005 (λd2 h2 _=>
   eqD d2 (i64 0)&&isB (h2.get 200001) vw&&isB (h2.get 200000) (.cells [dc,dr] true)&&ek (h2.del 200001) 100000 dc dcl&&ek (h2.del 200001) 100000 dr drs)
 | _=>false
theorem Fj {o:Option Box}{b:Box}(h:isB o b=true):o=some b:=by
 unfold isB at h;split at h
 ·rw[@GA gtR _ _ h]
 ·cases h
theorem iU.of_x {sp:FuncId->List D->Option D}(S:@qf gtR Tryz.prog sp){kind:Int}{k f f2:Nat}{cl:List Str}{rs:List Rul}(h:@mX gtR Tryz.prog (fD Tryz.prog) sp f (.fn 100) [i64 kind] .emp k (tV sp f2 (strs cl) (lstS cF rs))=true):iU kind k cl rs:=by
 letI:=gtR;obtain⟨d1,h1,nx1,k1,k2⟩:=iW aB T0 S f _ _ _ _ _ h;unfold tV at k2;split at k2
 ·rename_i dc dr;simp only[kC,Nat.ble_eq] at k2;obtain⟨⟨⟨hn,h0⟩,hq⟩,hc⟩:=k2;obtain⟨d2,h2,nx2,c1,c2⟩:=iW aB T0 S f2 _ _ _ _ _ hc;simp only[kC] at c2;obtain⟨⟨⟨⟨e1,e2⟩,e3⟩,e4⟩,e5⟩:=c2;rw[dR _ _ e1] at c1;have g1:=Fj e2;have g2:=Fj e3
  have hg0:h1.get 0=none:=by
   cases hx:h1.get 0 with
   | none=>rfl
   | some b=>rw[hx] at h0;cases h0
  have hgl:∀ (t:HT) (n i:Nat),aV (t.heap n).bs i=t.get i:=λt n i=>HT.heap_get
  refine⟨dc,dr,(h1.heap nx1).bs,(h2.heap nx2).bs,nx2,(h2.del 200001).heap 0,AC1.less k1 ⟨hn,λid box hg=>hg⟩,by rw[hgl];exact hg0,?_,by rw[hgl];exact g1,by rw[hgl];exact g2,λid b hg=>?_,jM _ _ _ e4,jM _ _ _ e5,jM (m:=199999) _ _ _ hq.1,jM (m:=199999) _ _ _ hq.2⟩
  ·refine AC1.congr (h:=((h1.put 200000 (.cells [dc,dr] true)).put 200001 vw).heap 200005) ⟨rfl,λi=>?_⟩ ⟨rfl,λi=>rfl⟩ c1;rw[HT.heap_get,HT.get_put,HT.get_put];simp only[aA.get,aV];rw[hgl]
  ·rw[HT.heap_get,HT.get_del] at hg;split at hg
   ·cases hg
   ·rename_i hne;exact⟨by rw[hgl];exact hg,by simpa using λe=>hne e.symm⟩
 ·cases k2
noncomputable def FW (sp:FuncId->List D->Option D) (f:Nat) (dcl drs:D) (d1:D) (h1:HT) (nx1:Nat):Bool:=
 match d1 with
 | .agg [dc,dr]=>Nat.ble nx1 199999&&(match h1.get 0 with|none=>true|some _=>false)&&(ek h1 100000 dc dcl&&ek h1 100000 dr drs) &&
  fx gtR Tryz.prog (fD Tryz.prog) sp f (.fn 112) [.agg [dc,dr]] ((h1.put 200000 (.cells [dc,dr] true)).put 200001 vw) 200005 (λd2 h2 _=>
   eqD d2 (i64 0)&&isB (h2.get 200001) vw&&isB (h2.get 200000) (.cells [dc,dr] true)&&ek (h2.del 200001) 100000 dc dcl&&ek (h2.del 200001) 100000 dr drs)
 | _=>false
theorem iU.pu {kind:Int}{k:Nat}{cl:List Str}{rs:List Rul}(hp:iU kind k cl rs):@Pu gtR Tryz.prog 100 [i64 kind] (.agg [strs cl,lstS cF rs]):=by
 letI:=gtR;obtain⟨dc,dr,bs,L2,N2,H3,h1,h2,h3,h4,h5,h6,h7,h8,h9,h10⟩:=hp.ex;exact Pu.of_ac rfl (h1.low (Nat.zero_le _)) (.agg (.cons h9 (.cons h10 .nil)))
theorem iU.of_t {sp:FuncId->List D->Option D}(S:@qf gtR Tryz.prog sp){kind:Int}{k f f2:Nat}{cl:List Str}{rs:List Rul}(h:fx gtR Tryz.prog (fD Tryz.prog) sp f (.fn 100) [i64 kind] .emp k (FW sp f2 (strs cl) (lstS cF rs))=true):iU kind k cl rs:=by
 have e:FW sp f2 (strs cl) (lstS cF rs)=tV sp f2 (strs cl) (lstS cF rs):=by
  funext d1 h1 nx1;unfold FW tV;rw[lM]
 rw[lM,e] at h;exact iU.of_x S h
end
section
open Go Go.Am Classical
set_option maxRecDepth 100000
theorem Il {F n:Nat}{rs:List Rul}{L R:Mch}{a b:Aut}(hL:i7 true F n n (rs.map (·.left)) ⟨[],[],[]⟩=some L) (hR:i7 false F n (n+1) (rs.map (·.right)) ⟨[],[],[]⟩=some R) (oL:okA n L=true) (oR:okA n R=true)
  (aL:j6 n L.nx L.ro F 0 [L.hi] [] []=some a) (aR:j6 n R.nx R.ro F 0 [R.hi] [] []=some b):comp F n rs=some (a,b):=by
 unfold comp;simp only[hL,hR,oL,oR,and_self,if_true,aL,aR]
theorem C6 (cl:List Str) (acts:List Int) (a b c d:List (List Nat)):aN (.agg [strs cl,aD acts,bU a,bU b,bU c,bU d])=true:=by
 letI:=gtR;simp[aN,aE,aP,aI,eO]
theorem HQ {kind:Int}{k F:Nat}{cl:List Str}{rs:List Rul}{LN LM RN RM:List (List Nat)}(hk:(kind=1∧k=6)∨(kind=2∧k=8)∨(kind=3∧k=10)∨(kind=4∧k=12)) (hp:iU kind k cl rs) (hF:F<=10000) (hn:cl.length<=999) (hcl0:0<cl.length) (hrl:rs.length<=1000) (hrs0:0<rs.length)
  (h:comp F cl.length rs=some ((LN,LM),(RN,RM))):@Pu gtR Tryz.prog 66 [i64 kind] (.agg [strs cl,aD (rs.map (·.act)),bU LN,bU LM,bU RN,bU RM]):=by
 letI:=gtR;obtain⟨dc,dr,bs,L2,N2,H3,h1,h2,h3,h4,h5,h6,h7,h8,_,_⟩:=hp.ex;have hc:=Dm hF hn hcl0 hrl hrs0 h h3 h4 h5 h6 h7 h8
 have f1:=h1.frame [(0,vw)] (λj B hj=>by
  simp only[aV] at hj;split at hj
  ·rename_i e;subst e;exact⟨rfl,h2⟩
  ·cases hj)
 have f2:=hc.frame [(0,vw)] (λj B hj=>by
  simp only[aV] at hj;split at hj
  ·rename_i e;subst e;exact⟨h2,rfl⟩
  ·cases hj)
 simp only[List.cons_append,List.nil_append,List.append_nil] at f1 f2;rcases hk with⟨rfl,rfl⟩|⟨rfl,rfl⟩|⟨rfl,rfl⟩|⟨rfl,rfl⟩
 all_goals
  refine pv Tryz.func66 ?_;repeat' ((conv=>whnf);first|exact kQ|(refine bk ?_ ?_<;>intro _<;>try(exfalso;omega))|refine stq ?_|refine qz ?_|refine Cll.mk ⟨_,_,f1,?_⟩|refine Cll.mk ⟨_,_,f2,?_⟩|fail)
  all_goals(conv=>whnf)
  exact aC.same (C6 _ _ _ _ _ _) rfl
end
section
open Go Go.Am
set_option maxRecDepth 100000
def toN:List Bool->Nat
 | []=>0
 | b::l=>(if b then 1 else 0)+2*toN l
theorem vL:∀ (l:List Bool) (r:Nat),(toN l).testBit r=l.getD r false
 | [],r=>by simp[toN]
 | b::l,0=>by cases b<;>simp[toN,Nat.testBit_zero]<;>omega
 | b::l,r+1=>by
  have h:toN (b::l) / 2=toN l:=by simp only[toN];split<;>omega
  rw[Nat.testBit_succ,h,vL l r];simp
theorem Au:∀ {a b:List Bool},a.length=b.length->toN a=toN b->a=b
 | [],[],_,_=>rfl
 | x::a,y::b,hl,h=>by
  have h1:toN a=toN b:=by simp only[toN] at h;cases x<;>cases y<;>simp at h<;>omega
  have h2:x=y:=by simp only[toN] at h;cases x<;>cases y<;>simp at h ⊢<;>omega
  rw[h2,Au (by simpa using hl) h1]
 | [],_::_,hl,_=>by simp at hl
 | _::_,[],hl,_=>by simp at hl
def GQ (cur:Nat):List Nat->Nat
 | []=>0
 | r::l=>(if cur.testBit r then 1 else 0)+2*GQ cur l
theorem Bx {cur:List Bool}{c:Nat}:∀ (next:List (List Nat)),GQ (toN cur) (next.map (·.getD c 0))=toN (nxB next cur c)
 | []=>rfl
 | r::l=>by
  have ih:=Bx (cur:=cur) (c:=c) l;simp only[nxB] at ih;simp only[List.map_cons,GQ,nxB,toN,vL,ih]
def Fs (x:Nat):List Nat->Nat->Option Nat
 | [],_=>none
 | y::l,i=>if Nat.beq x y=true then some i else Fs x l (i+1)
def Er (cur:Nat):List (List Nat)->List Nat->List Nat->Option (List Nat×List Nat)
 | [],ss,row=>some (row,ss)
 | col::cols,ss,row=>
  match Fs (GQ cur col) ss 0 with
  | some i=>Er cur cols ss (row++[i])
  | none=>if ss.length<400 then Er cur cols (ss++[GQ cur col]) (row++[ss.length]) else none
def FN (cur:Nat):List Nat->Nat->List Nat
 | [],_=>[]
 | r::l,i=>if cur.testBit r then i::FN cur l (i+1) else FN cur l (i+1)
def I2 (cols:List (List Nat)) (roots:List Nat):Nat->Nat->List Nat->List (List Nat)->List (List Nat)->Option (List (List Nat)×List (List Nat))
 | 0,_,_,_,_=>none
 | f+1,i,ss,rows,marks=>
  match ss[i]? with
  | none=>some (rows,marks)
  | some cur=>
   match Er cur cols ss [] with
   | none=>none
   | some (row,ss')=>I2 cols roots f (i+1) ss' (rows++[row]) (marks++[FN cur roots 0])
theorem Bi {s:List Bool}{N:Nat}(hs:s.length=N):∀ (ss:List (List Bool)) (i:Nat),(∀ t∈ss,t.length=N)->Fs (toN s) (ss.map toN) i=if s∈ss then some (i+ss.idxOf s) else none
 | [],i,_=>by simp[Fs]
 | t::ss,i,h=>by
  have ih:=Bi hs ss (i+1) (λx hx=>h x (by simp[hx]));simp only[List.map_cons,Fs];by_cases e:s=t
  ·subst e;simp
  ·have hne:¬toN s=toN t:=λhx=>e (Au (by rw[hs,h t si]) hx)
   rw[if_neg (by simpa using hne),ih];have e':¬t=s:=λhx=>e hx.symm
   simp only[kH,e,false_or,List.idxOf_cons,beq_eq_false_iff_ne.2 e',cond_false];split
   ·congr 1;omega
   ·rfl
theorem Bb {cur:List Bool}:∀ (l:List Nat) (i:Nat),FN (toN cur) l i=iA cur l i
 | [],_=>rfl
 | r::l,i=>by simp only[FN,iA,vL,Bb l (i+1)]
theorem vU {next:List (List Nat)}{cur:List Bool}:∀ (k c:Nat) (ss:List (List Bool)) (row:List Nat),(∀ t∈ss,t.length=next.length) ->
  Er (toN cur) ((List.range' c k).map λc=>next.map (·.getD c 0)) (ss.map toN) row=(jL next cur k c ss row).map (λp=>(p.1,p.2.map toN))∧∀ p,jL next cur k c ss row=some p->∀ t∈p.2,t.length=next.length
 | 0,c,ss,row,h=>⟨rfl,λp hp=>by simp only[jL,kA] at hp;subst hp;exact h⟩
 | k+1,c,ss,row,h=>by
  have hl:(nxB next cur c).length=next.length:=List.length_map _
  simp only[List.range'_succ,List.map_cons,Er,Bx,Bi hl ss 0 h,jL,Nat.zero_add];by_cases hm:nxB next cur c∈ss
  ·simp only[hm,if_true];exact vU k (c+1) ss _ h
  ·simp only[hm,if_false,List.length_map];by_cases h4:ss.length<400
   ·simp only[h4,if_true]
    have:=vU (next:=next) (cur:=cur) k (c+1) (ss++[nxB next cur c]) (row++[ss.length]) (λt ht=>by
     rcases List.mem_append.1 ht with ht|ht
     ·exact h t ht
     ·simp at ht;subst ht;exact hl)
    simpa using this
   ·simp only[h4,if_false,Option.map_none];exact⟨trivial,λp hp=>by cases hp⟩
theorem B9 {n:Nat}{next:List (List Nat)}{roots:List Nat}:∀ (f i:Nat) (ss:List (List Bool)) (rows marks:List (List Nat)),(∀ t∈ss,t.length=next.length) ->
  I2 ((List.range' 0 n).map λc=>next.map (·.getD c 0)) roots f i (ss.map toN) rows marks=j6 n next roots f i ss rows marks
 | 0,_,_,_,_,_=>rfl
 | f+1,i,ss,rows,marks,h=>by
  simp only[I2,j6,List.getElem?_map];cases hi:ss[i]? with
  | none=>rfl
  | some cur=>
   obtain⟨h1,h2⟩:=vU (cur:=cur) n 0 ss [] h;simp only[kF,h1];cases hr:jL next cur n 0 ss [] with
   | none=>rfl
   | some p=>simp only[kF,Bb];exact B9 f (i+1) p.2 _ _ (h2 p hr)
theorem Gm {n F:Nat}{m:Mch}{cols:List (List Nat)}{x:Nat}{a:Aut}(hc:(List.range' 0 n).map (λc=>m.nx.map (·.getD c 0))=cols) (hx:toN m.hi=x) (hl:m.hi.length=m.nx.length) (h:I2 cols m.ro F 0 [x] [] []=some a):j6 n m.nx m.ro F 0 [m.hi] [] []=some a:=by
 rw[<-B9 F 0 [m.hi] [] [] (by simpa using hl),hc];simpa [hx] using h
def sx:List Nat->List Nat->List Nat
 | k::v::l,r=>sx l (r.set k v)
 | _,r=>r
def ux:List (Nat×List Nat)->List (List Nat)->List (List Nat)
 | [],a=>a
 | (0,r)::l,a=>ux l (a++[r])
 | (1,n::z::d)::l,a=>ux l (a++[sx d (List.replicate n z)])
 | (1,_)::l,a=>ux l a
 | (j+2,d)::l,a=>ux l (a++[sx d (a.getD j [])])
end
section

end
end Go.Proofs.YtbmdndckndnehaaGreatDoor
