/-
  Rules parsed by a closed run, and checked behind it.
-/
import Derived.Test.YtbjngeioomjklaaGreatDoorD0
import Derived.Test.YtbjngeioomjklaaGreatDoorAmF
namespace Go.Proofs.YtbjngeioomjklaaGreatDoor
open Go Go.Am
set_option maxRecDepth 100000
set_option linter.unusedSectionVars false
abbrev nil6:Box:=.cells [nilS,nilS,nilS,nilS,nilS,nilS] true
def isB (o:Option Box) (b:Box):Bool:=match o with|some x=>eqB x b|none=>false
structure Parses (kind:Int) (k:Nat) (cl:List Str) (rs:List Rul):Prop where
 ex:∃ (dc dr:D) (bs L2:List (Nat×Box)) (N2:Nat) (H3:Heap),@AC1 gtR Tryz.prog 16 [i64 kind] ⟨k,[]⟩ (.agg [dc,dr]) ⟨199999,bs⟩∧getL bs 0=none ∧
  @AC1 gtR Tryz.prog 40 [.agg [dc,dr]] ⟨200005,(200001,nil6) :: (200000,.cells [dc,dr] true) :: bs⟩ (i64 0) ⟨N2,L2⟩∧getL L2 200001=some nil6∧getL L2 200000=some (.cells [dc,dr] true) ∧
  (∀ id b,H3.get id=some b→getL L2 id=some b∧(id != 200001)=true)∧Rd H3 (fun _=>true) (fun _=>none) dc (strs cl)∧Rd H3 (fun _=>true) (fun _=>none) dr (lstS rulC rs) ∧
  Rd ⟨199999,bs⟩ (fun _=>true) (fun _=>none) dc (strs cl)∧Rd ⟨199999,bs⟩ (fun _=>true) (fun _=>none) dr (lstS rulC rs)
noncomputable def look (sp:FuncId→List D→Option D) (f:Nat) (dcl drs:D) (d1:D) (h1:HT) (nx1:Nat):Bool:=
 match d1 with
 | .agg [dc,dr]=>Nat.ble nx1 199999 && (match h1.get 0 with|none=>true|some _=>false) && (retB h1 100000 dc dcl && retB h1 100000 dr drs) &&
  @xcallF gtR Tryz.prog (tiOf Tryz.prog) sp f (.fn 40) [.agg [dc,dr]] ((h1.put 200000 (.cells [dc,dr] true)).put 200001 nil6) 200005 (fun d2 h2 _=>
   eqD d2 (i64 0) && isB (h2.get 200001) nil6 && isB (h2.get 200000) (.cells [dc,dr] true) && retB (h2.del 200001) 100000 dc dcl && retB (h2.del 200001) 100000 dr drs)
 | _=>false
theorem isB_eq {o:Option Box}{b:Box}(h:isB o b=true):o=some b:=by
 unfold isB at h
 split at h
 ·rw [@eqB_eq gtR _ _ h]
 ·cases h
theorem Parses.of_x {sp:FuncId→List D→Option D}(S:@SpOk gtR Tryz.prog sp){kind:Int}{k f f2:Nat}{cl:List Str}{rs:List Rul}(h:@xcallF gtR Tryz.prog (tiOf Tryz.prog) sp f (.fn 16) [i64 kind] .emp k (look sp f2 (strs cl) (lstS rulC rs))=true):Parses kind k cl rs:=by
 letI:=gtR
 obtain ⟨d1,h1,nx1,k1,k2⟩:=xcallF_ok mixed T0 S f _ _ _ _ _ h
 unfold look at k2
 split at k2
 ·rename_i dc dr
  simp only [Bool.and_eq_true,Nat.ble_eq] at k2
  obtain ⟨⟨⟨hn,h0⟩,hq⟩,hc⟩:=k2
  obtain ⟨d2,h2,nx2,c1,c2⟩:=xcallF_ok mixed T0 S f2 _ _ _ _ _ hc
  simp only [Bool.and_eq_true] at c2
  obtain ⟨⟨⟨⟨e1,e2⟩,e3⟩,e4⟩,e5⟩:=c2
  rw [eqD_eq _ _ e1] at c1
  have g1:=isB_eq e2
  have g2:=isB_eq e3
  have hg0:h1.get 0=none:=by
   cases hx:h1.get 0 with
   | none=>rfl
   | some b=>rw [hx] at h0;cases h0
  have hgl:∀ (t:HT) (n i:Nat),getL (t.heap n).bs i=t.get i:=fun t n i=>HT.heap_get
  refine ⟨dc,dr,(h1.heap nx1).bs,(h2.heap nx2).bs,nx2,(h2.del 200001).heap 0,AC1.less k1 ⟨hn,fun id box hg=>hg⟩,by rw [hgl];exact hg0,?_,by rw [hgl];exact g1,by rw [hgl];exact g2,fun id b hg=>?_,retB_rd _ _ _ e4,retB_rd _ _ _ e5,retB_rd (m:=199999) _ _ _ hq.1,retB_rd (m:=199999) _ _ _ hq.2⟩
  ·refine AC1.congr (h:=((h1.put 200000 (.cells [dc,dr] true)).put 200001 nil6).heap 200005) ⟨rfl,fun i=>?_⟩ ⟨rfl,fun i=>rfl⟩ c1
   rw [HT.heap_get,HT.get_put,HT.get_put]
   simp only [Heap.get,getL]
   rw [hgl]
  ·rw [HT.heap_get,HT.get_del] at hg
   split at hg
   ·cases hg
   ·rename_i hne
    exact ⟨by rw [hgl];exact hg,by simpa using fun e=>hne e.symm⟩
 ·cases k2
noncomputable def lookT (sp:FuncId→List D→Option D) (f:Nat) (dcl drs:D) (d1:D) (h1:HT) (nx1:Nat):Bool:=
 match d1 with
 | .agg [dc,dr]=>Nat.ble nx1 199999 && (match h1.get 0 with|none=>true|some _=>false) && (retB h1 100000 dc dcl && retB h1 100000 dr drs) &&
  callT gtR Tryz.prog (tiOf Tryz.prog) sp f (.fn 40) [.agg [dc,dr]] ((h1.put 200000 (.cells [dc,dr] true)).put 200001 nil6) 200005 (fun d2 h2 _=>
   eqD d2 (i64 0) && isB (h2.get 200001) nil6 && isB (h2.get 200000) (.cells [dc,dr] true) && retB (h2.del 200001) 100000 dc dcl && retB (h2.del 200001) 100000 dr drs)
 | _=>false
theorem Parses.pu {kind:Int}{k:Nat}{cl:List Str}{rs:List Rul}(hp:Parses kind k cl rs):@Pu gtR Tryz.prog 16 [i64 kind] (.agg [strs cl,lstS rulC rs]):=by
 letI:=gtR
 obtain ⟨dc,dr,bs,L2,N2,H3,h1,h2,h3,h4,h5,h6,h7,h8,h9,h10⟩:=hp.ex
 exact Pu.of_ac rfl (h1.low (Nat.zero_le _)) (.agg (.cons h9 (.cons h10 .nil)))
theorem Parses.of_t {sp:FuncId→List D→Option D}(S:@SpOk gtR Tryz.prog sp){kind:Int}{k f f2:Nat}{cl:List Str}{rs:List Rul}(h:callT gtR Tryz.prog (tiOf Tryz.prog) sp f (.fn 16) [i64 kind] .emp k (lookT sp f2 (strs cl) (lstS rulC rs))=true):Parses kind k cl rs:=by
 have e:lookT sp f2 (strs cl) (lstS rulC rs)=look sp f2 (strs cl) (lstS rulC rs):=by
  funext d1 h1 nx1
  unfold lookT look
  rw [callT_eq]
 rw [callT_eq,e] at h
 exact Parses.of_x S h
end Go.Proofs.YtbjngeioomjklaaGreatDoor
namespace Go.Proofs.YtbjngeioomjklaaGreatDoor
open Go Go.Am Classical
set_option maxRecDepth 100000
set_option linter.unusedSectionVars false
theorem comp_of {F n:Nat}{rs:List Rul}{L R:Mch}{a b:Aut}(hL:foldM true F n n (rs.map (·.left)) ⟨[],[],[]⟩=some L) (hR:foldM false F n (n+1) (rs.map (·.right)) ⟨[],[],[]⟩=some R) (oL:okA n L=true) (oR:okA n R=true)
  (aL:autB n L.nx L.ro F 0 [L.hi] [] []=some a) (aR:autB n R.nx R.ro F 0 [R.hi] [] []=some b):comp F n rs=some (a,b):=by
 unfold comp
 simp only [hL,hR,oL,oR,and_self,if_true,aL,aR]
theorem noBox_tab (cl:List Str) (acts:List Int) (a b c d:List (List Nat)):noBox (.agg [strs cl,ints acts,natss a,natss b,natss c,natss d])=true:=by
 letI:=gtR
 simp [noBox,noBoxs,noBox_strs,noBox_ints,noBox_natss]
theorem table_c {kind:Int}{k F:Nat}{cl:List Str}{rs:List Rul}{LN LM RN RM:List (List Nat)}(hk:(kind=1∧k=6)∨(kind=2∧k=8)∨(kind=3∧k=10)∨(kind=4∧k=12)) (hp:Parses kind k cl rs) (hF:F≤10000) (hn:cl.length≤999) (hcl0:0 < cl.length) (hrl:rs.length≤1000) (hrs0:0 < rs.length)
  (h:comp F cl.length rs=some ((LN,LM),(RN,RM))):@Pu gtR Tryz.prog 19 [i64 kind] (.agg [strs cl,ints (rs.map (·.act)),natss LN,natss LM,natss RN,natss RM]):=by
 letI:=gtR
 obtain ⟨dc,dr,bs,L2,N2,H3,h1,h2,h3,h4,h5,h6,h7,h8,_,_⟩:=hp.ex
 have hc:=compile_c hF hn hcl0 hrl hrs0 h h3 h4 h5 h6 h7 h8
 have f1:=h1.frame [(0,nil6)] (fun j B hj=>by
  simp only [getL] at hj
  split at hj
  ·rename_i e;subst e;exact ⟨rfl,h2⟩
  ·cases hj)
 have f2:=hc.frame [(0,nil6)] (fun j B hj=>by
  simp only [getL] at hj
  split at hj
  ·rename_i e;subst e;exact ⟨h2,rfl⟩
  ·cases hj)
 simp only [List.cons_append,List.nil_append,List.append_nil] at f1 f2
 rcases hk with ⟨rfl,rfl⟩|⟨rfl,rfl⟩|⟨rfl,rfl⟩|⟨rfl,rfl⟩
 all_goals
  refine Pu.of_v mixed T0 Tryz.func19 rfl rfl rfl ?_
  repeat' ((conv=>whnf) <;> (first|refine SeqV.go mixed T0 ?_|exact True.intro|(refine Br.mk (fun _=>?_) (fun _=>?_) <;> (try (exfalso;omega)))|refine stq ?_|refine boxK_mk ?_|refine Cll.mk ⟨_,_,f1,?_⟩|refine Cll.mk ⟨_,_,f2,?_⟩|fail))
  all_goals (conv=>whnf)
  exact RetV.same (noBox_tab _ _ _ _ _ _) rfl
end Go.Proofs.YtbjngeioomjklaaGreatDoor
namespace Go.Proofs.YtbjngeioomjklaaGreatDoor
open Go Go.Am
set_option maxRecDepth 100000
def toN:List Bool→Nat
 | []=>0
 | b :: l=>(if b then 1 else 0)+2 * toN l
theorem toN_bit:∀ (l:List Bool) (r:Nat),(toN l).testBit r=l.getD r false
 | [],r=>by simp [toN]
 | b :: l,0=>by cases b <;> simp [toN,Nat.testBit_zero] <;> omega
 | b :: l,r+1=>by
  have h:toN (b :: l) / 2=toN l:=by simp only [toN];split <;> omega
  rw [Nat.testBit_succ,h,toN_bit l r]
  simp
theorem toN_inj:∀ {a b:List Bool},a.length=b.length→toN a=toN b→a=b
 | [],[],_,_=>rfl
 | x :: a,y :: b,hl,h=>by
  have h1:toN a=toN b:=by simp only [toN] at h;cases x <;> cases y <;> simp at h <;> omega
  have h2:x=y:=by simp only [toN] at h;cases x <;> cases y <;> simp at h ⊢ <;> omega
  rw [h2,toN_inj (by simpa using hl) h1]
 | [],_ :: _,hl,_=>by simp at hl
 | _ :: _,[],hl,_=>by simp at hl
def colN (cur:Nat):List Nat→Nat
 | []=>0
 | r :: l=>(if cur.testBit r then 1 else 0)+2 * colN cur l
theorem colN_eq {cur:List Bool}{c:Nat}:∀ (next:List (List Nat)),colN (toN cur) (next.map (·.getD c 0))=toN (nxB next cur c)
 | []=>rfl
 | r :: l=>by
  have ih:=colN_eq (cur:=cur) (c:=c) l
  simp only [nxB] at ih
  simp only [List.map_cons,colN,nxB,toN,toN_bit,ih]
def idxN (x:Nat):List Nat→Nat→Option Nat
 | [],_=>none
 | y :: l,i=>if Nat.beq x y=true then some i else idxN x l (i+1)
def rowM (cur:Nat):List (List Nat)→List Nat→List Nat→Option (List Nat×List Nat)
 | [],ss,row=>some (row,ss)
 | col :: cols,ss,row=>
  match idxN (colN cur col) ss 0 with
  | some i=>rowM cur cols ss (row ++ [i])
  | none=>if ss.length < 400 then rowM cur cols (ss ++ [colN cur col]) (row ++ [ss.length]) else none
def mrkM (cur:Nat):List Nat→Nat→List Nat
 | [],_=>[]
 | r :: l,i=>if cur.testBit r then i :: mrkM cur l (i+1) else mrkM cur l (i+1)
def autM (cols:List (List Nat)) (roots:List Nat):Nat→Nat→List Nat→List (List Nat)→List (List Nat)→Option (List (List Nat)×List (List Nat))
 | 0,_,_,_,_=>none
 | f+1,i,ss,rows,marks=>
  match ss[i]? with
  | none=>some (rows,marks)
  | some cur=>
   match rowM cur cols ss [] with
   | none=>none
   | some (row,ss')=>autM cols roots f (i+1) ss' (rows ++ [row]) (marks ++ [mrkM cur roots 0])
theorem idxN_eq {s:List Bool}{N:Nat}(hs:s.length=N):∀ (ss:List (List Bool)) (i:Nat),(∀ t ∈ ss,t.length=N)→idxN (toN s) (ss.map toN) i=if s ∈ ss then some (i+ss.idxOf s) else none
 | [],i,_=>by simp [idxN]
 | t :: ss,i,h=>by
  have ih:=idxN_eq hs ss (i+1) (fun x hx=>h x (by simp [hx]))
  simp only [List.map_cons,idxN]
  by_cases e:s=t
  ·subst e;simp
  ·have hne:¬ toN s=toN t:=fun hx=>e (toN_inj (by rw [hs,h t (by simp)]) hx)
   rw [if_neg (by simpa using hne),ih]
   have e':¬ t=s:=fun hx=>e hx.symm
   simp only [List.mem_cons,e,false_or,List.idxOf_cons,beq_eq_false_iff_ne.2 e',cond_false]
   split
   ·congr 1;omega
   ·rfl
theorem mrkM_eq {cur:List Bool}:∀ (l:List Nat) (i:Nat),mrkM (toN cur) l i=mrkB cur l i
 | [],_=>rfl
 | r :: l,i=>by simp only [mrkM,mrkB,toN_bit,mrkM_eq l (i+1)]
theorem rowM_eq {next:List (List Nat)}{cur:List Bool}:∀ (k c:Nat) (ss:List (List Bool)) (row:List Nat),(∀ t ∈ ss,t.length=next.length) →
  rowM (toN cur) ((List.range' c k).map fun c=>next.map (·.getD c 0)) (ss.map toN) row=(rowB next cur k c ss row).map (fun p=>(p.1,p.2.map toN))∧∀ p,rowB next cur k c ss row=some p→∀ t ∈ p.2,t.length=next.length
 | 0,c,ss,row,h=>⟨rfl,fun p hp=>by simp only [rowB,Option.some.injEq] at hp;subst hp;exact h⟩
 | k+1,c,ss,row,h=>by
  have hl:(nxB next cur c).length=next.length:=List.length_map _
  simp only [List.range'_succ,List.map_cons,rowM,colN_eq,idxN_eq hl ss 0 h,rowB,Nat.zero_add]
  by_cases hm:nxB next cur c ∈ ss
  ·simp only [hm,if_true]
   exact rowM_eq k (c+1) ss _ h
  ·simp only [hm,if_false,List.length_map]
   by_cases h4:ss.length < 400
   ·simp only [h4,if_true]
    have:=rowM_eq (next:=next) (cur:=cur) k (c+1) (ss ++ [nxB next cur c]) (row ++ [ss.length]) (fun t ht=>by
     rcases List.mem_append.1 ht with ht|ht
     ·exact h t ht
     ·simp at ht;subst ht;exact hl)
    simpa using this
   ·simp only [h4,if_false,Option.map_none]
    exact ⟨trivial,fun p hp=>by cases hp⟩
theorem autM_eq {n:Nat}{next:List (List Nat)}{roots:List Nat}:∀ (f i:Nat) (ss:List (List Bool)) (rows marks:List (List Nat)),(∀ t ∈ ss,t.length=next.length) →
  autM ((List.range' 0 n).map fun c=>next.map (·.getD c 0)) roots f i (ss.map toN) rows marks=autB n next roots f i ss rows marks
 | 0,_,_,_,_,_=>rfl
 | f+1,i,ss,rows,marks,h=>by
  simp only [autM,autB,List.getElem?_map]
  cases hi:ss[i]? with
  | none=>rfl
  | some cur=>
   obtain ⟨h1,h2⟩:=rowM_eq (cur:=cur) n 0 ss [] h
   simp only [Option.map_some,h1]
   cases hr:rowB next cur n 0 ss [] with
   | none=>rfl
   | some p=>simp only [Option.map_some,mrkM_eq];exact autM_eq f (i+1) p.2 _ _ (h2 p hr)
theorem aut_of {n F:Nat}{m:Mch}{cols:List (List Nat)}{x:Nat}{a:Aut}(hc:(List.range' 0 n).map (fun c=>m.nx.map (·.getD c 0))=cols) (hx:toN m.hi=x) (hl:m.hi.length=m.nx.length) (h:autM cols m.ro F 0 [x] [] []=some a):autB n m.nx m.ro F 0 [m.hi] [] []=some a:=by
 rw [← autM_eq F 0 [m.hi] [] [] (by simpa using hl),hc]
 simpa [hx] using h
end Go.Proofs.YtbjngeioomjklaaGreatDoor
namespace Go.Proofs.YtbjngeioomjklaaGreatDoor
open Go Go.Am
set_option maxRecDepth 100000
noncomputable def scanB:List (Str×List Str)→Bool
 | []=>true
 | (l,t) :: r=>callT gtR Tryz.prog (tiOf Tryz.prog) spC 100 (.fn 77) [.str l] .emp 0 (fun d h _=>retB h 100000 d (strs t)) && scanB r
theorem scanB_ok:∀ {T:List (Str×List Str)},scanB T=true→∀ p ∈ T,@Pu gtR Tryz.prog 77 [.str p.1] (strs p.2)
 | [],_,p,hp=>by simp at hp
 | (l,t) :: r,h,p,hp=>by
  simp only [scanB,Bool.and_eq_true] at h
  rcases List.mem_cons.1 hp with rfl|hp
  ·letI:=gtR
   exact Pu.of_t mixed T0 spC_ok rfl h.1
  ·exact scanB_ok h.2 p hp
def lookS (l:Str):List (Str×List Str)→Option (List Str)
 | []=>none
 | p :: r=>if strB l p.1=true then some p.2 else lookS l r
theorem lookS_mem {l:Str}{t:List Str}:∀ {T:List (Str×List Str)},lookS l T=some t→(l,t) ∈ T
 | [],h=>by simp [lookS] at h
 | p :: r,h=>by
  letI:=gtR
  simp only [lookS] at h
  split at h
  ·rename_i e
   injection h with h
   rw [strB_iff.1 e,← h];simp
  ·exact List.mem_cons_of_mem _ (lookS_mem h)
noncomputable def spL (T:List (Str×List Str)) (g:FuncId) (ds:List D):Option D:=
 if Nat.beq g 77=true then
  match ds with
  | [.str l]=>(match lookS l T with|some t=>some (strs t)|none=>none)
  | _=>none
 else spC g ds
theorem spL_ok {T:List (Str×List Str)}(h:scanB T=true):@SpOk gtR Tryz.prog (spL T):=fun g ds d hd=>by
 unfold spL at hd
 split at hd
 ·rename_i hg
  obtain rfl:=Nat.eq_of_beq_eq_true hg
  split at hd
  ·split at hd
   ·rename_i t ht
    injection hd with hd;subst hd
    exact scanB_ok h _ (lookS_mem ht)
   ·cases hd
  ·cases hd
 ·exact spC_ok g ds d hd
end Go.Proofs.YtbjngeioomjklaaGreatDoor
