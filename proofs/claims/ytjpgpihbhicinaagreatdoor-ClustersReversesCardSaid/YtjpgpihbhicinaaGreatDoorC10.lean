/-
  Contracts of functions over data: a pattern added to a machine.
-/
import Derived.Test.YtjpgpihbhicinaaGreatDoorC7
import Derived.Test.YtjpgpihbhicinaaGreatDoorC8
import Derived.Test.YtjpgpihbhicinaaGreatDoorAmF
set_option linter.unusedSectionVars false
namespace Go.Proofs.YtjpgpihbhicinaaGreatDoor
open Go Go.Am Classical
set_option maxRecDepth 100000
variable [GT]
abbrev nkC (k:Nat):List D:=[cZ k]
theorem nh (k:Nat):aB (nkC k)=true:=rfl
theorem z8 (k:Bool):aB (blC k)=true:=rfl
def okS (ns:List Nd) (s:List Nat):Bool:=s.all (fun x=>Nat.blt x ns.length&&Nat.blt x 100)&&Nat.ble s.length 100
def tY (ns:List Nd):Bool:=Nat.ble ns.length 1000&&ns.all (fun n=>Nat.ble n.cls.length 1000&&Nat.ble n.to.length 100)
def rJ (ns:List Nd) (F e base:Nat) (cur:List Nat):Nat->Nat->List (List Nat)->List Bool->List Nat->Option (List Nat×List (List Nat)×List Bool)
 | 0,_,ss,hits,row=>some (row,ss,hits)
 | k+1,c,ss,hits,row=>
  match stp ns F cur (c:Int) with
  | none=>none
  | some s=>
   if okS ns s then
    if eY s∈cJ ss then rJ ns F e base cur k (c+1) ss hits (row++[base+(cJ ss).idxOf (eY s)])
    else
     match stp ns F s (e:Int) with
     | none=>none
     | some r=>if okS ns r∧ss.length<=1000 then rJ ns F e base cur k (c+1) (ss++[s]) (hits++[decide (r=[0])]) (row++[base+ss.length]) else none
   else none
def oF (ns:List Nd) (F n e base:Nat):Nat->Nat->List (List Nat)->List (List Nat)->List Bool->Option (List (List Nat)×List Bool)
 | 0,_,_,_,_=>none
 | f+1,i,ss,next,hits=>
  match ss[i]? with
  | none=>some (next,hits)
  | some cur=>
   match rJ ns F e base cur n 0 ss hits [] with
   | none=>none
   | some (row,ss',hits')=>oF ns F n e base f (i+1) ss' (next++[row]) hits'
def uR (b:Bool) (F n e:Nat) (p:Pat) (next:List (List Nat)) (hits:List Bool) (roots:List Nat):Option (List (List Nat)×List Bool×List Nat):=
 match lW b F p 0 [⟨[],[]⟩] with
 | none=>none
 | some (first,ns)=>
  if tY ns then
   match clo ns F [] [first] [] with
   | none=>none
   | some s0=>
    if okS ns s0 then
     match stp ns F s0 (e:Int) with
     | none=>none
     | some r=>
      if okS ns r then
       match oF ns F n e next.length F 0 [s0] next (hits++[decide (r=[0])]) with
       | none=>none
       | some (next',hits')=>if next'≠[]∧hits'.length=next'.length∧next'.length<=10000 then some (next',hits',roots++[next.length]) else none
      else none
    else none
  else none
theorem gQ {ns:List Nd}{s:List Nat}(h:okS ns s=true):s.length<=100∧(∀ i (h:i<s.length),s[i]<100)∧∀ i (h:i<s.length),s[i]<ns.length:=by
 simp only[okS,kC,kL,Nat.blt_eq,Nat.ble_eq] at h;exact⟨h.2,fun i hi=>(h.1 _ (kM hi)).2,fun i hi=>(h.1 _ (kM hi)).1⟩
theorem lG {ns:List Nd}{c:Int}(h:tY ns=true):∀ s:List Nat,(gat ns c s).length<=s.length*100
 | []=>by simp[gat]
 | i::l=>by
  have ih:=lG (c:=c) h l;simp only[gat,kG,kO];split
  ·rename_i n hn;split
   ·have h1:n.to.length<=100:=by
     simp only[tY,kC,kL,Nat.ble_eq] at h;exact(h.2 n (List.mem_of_getElem? hn)).2
    omega
   ·simp only[List.length_nil];omega
  ·simp only[List.length_nil];omega
theorem ky {ns:List Nd}(h:tY ns=true):ns.length<=1000∧∀ i (h:i<ns.length),ns[i].cls.length<=1000:=by
 simp only[tY,kC,kL,Nat.ble_eq] at h;exact⟨h.1,fun i hi=>(h.2 _ (kM hi)).1⟩
theorem BD {ns:List Nd}{b:Bool}{s r:List Nat}{c:Int}{F:Nat}(hF:F<=100000) (hn:tY ns=true) (hs:okS ns s=true) (h:stp ns F s c=some r):Pu Tryz.prog 132 [iI ns b,dL s,i64 c] (dL r):=by
 have h1:=gQ hs;have h2:=ky hn;have h3:=lG (c:=c) hn s;exact BE hF (by omega) h1.2.2 (by omega) (fun i hi=>Nat.le_trans (h2.2 i hi) (by omega)) (by omega) h
abbrev nuN (n e base:Nat) (b:Bool) (ss:List (List Nat)) (next:List (List Nat)) (hits:List Bool) (roots:List Nat):List (Nat×Box):=
 [(0,.cells [.map 1] true),(1,.map (pos (cJ ss) base)),(2,.cells [.sl 3 0 ss.length ss.length 1 false] true),(3,.cells (ss.flatMap nsC) false),(4,.cells [.ptr 5 0] true),(5,.cells (mcC n e b (ai 7 1 next) (.sl 6 0 hits.length hits.length 1 false) (ai 8 1 roots)) true),(6,.cells (hits.flatMap blC) false)]
theorem AC1.same {P:Program}{g:FuncId}{ds:List D}{h h0:aC}{d:D}{h':aC}(hp:AC1 P g ds h d h') (hn:h.next=h0.next) (he:∀ j,h.get j=h0.get j):AC1 P g ds h0 d h':=AC1.congr ⟨hn,he⟩ (Heq.refl _) hp
theorem Fe {n e base F:Nat}{b:Bool}{ns:List Nd}{ss next:List (List Nat)}{s r:List Nat}{hits:List Bool}{roots:List Nat}(hs0:ss≠[]) (hh0:hits≠[]) (hn:tY ns=true) (hs:okS ns s=true) (hr:okS ns r=true) (hk:¬eY s∈cJ ss) (hsl:ss.length<=1000) (hbase:base<=10000)
  (hhl:hits.length=base+ss.length) (hF:F<=100000) (hst:stp ns F s (e:Int)=some r) :
  AC1 Tryz.prog 129 [dL s,.ptr 0 0,.iptr [i64 (base:Int)],.ptr 2 0,.ptr 4 0,iI ns b]
   ⟨9,nuN n e base b ss next hits roots⟩ (i64 ((base+ss.length:Nat):Int)) ⟨11,nuR n e base b (ss++[s]) next (hits++[decide (r=[0])]) roots⟩:=by
 have h1:=gQ hs;have h2:=ky hn;have h3:=lG (c:=(e:Int)) hn s;have h4:=gQ hr;refine AC1.same (Bu (n:=n) (e:=e) (next:=next) (roots:=roots) (b:=b) (by omega) h1.2.1 hk (by omega) (by omega) hhl hF (by omega) h1.2.2 (fun i hi=>Nat.le_trans (h2.2 i hi) (by omega)) (by omega) hst (by omega)) rfl fun j=>?_
 cases ss with
 | nil=>exact absurd rfl hs0
 | cons t ts=>
  cases hits with
  | nil=>exact absurd rfl hh0
  | cons y ys=>
   simp only[aC.get,cW,ah,List.cons_append,List.nil_append,ai];by_cases e3:3=j
   ·subst e3;simp
   ·simp only[e3,if_false]
theorem Ff {n e base F:Nat}{b:Bool}{ns:List Nd}{next:List (List Nat)}{s r:List Nat}{hits:List Bool}{roots:List Nat}(hn:tY ns=true) (hs:okS ns s=true) (hr:okS ns r=true) (hbase:base<=10000)
  (hhl:hits.length=base) (hF:F<=100000) (hst:stp ns F s (e:Int)=some r) :
  AC1 Tryz.prog 129 [dL s,.ptr 0 0,.iptr [i64 (base:Int)],.ptr 2 0,.ptr 4 0,iI ns b]
   ⟨9,nuB n e base b [] next hits roots⟩ (i64 ((base:Nat):Int)) ⟨11,nuR n e base b [s] next (hits++[decide (r=[0])]) roots⟩:=by
 have h1:=gQ hs;have h2:=ky hn;have h3:=lG (c:=(e:Int)) hn s;have h4:=gQ hr;exact Bu (n:=n) (e:=e) (next:=next) (roots:=roots) (b:=b) (ss:=[]) (by omega) h1.2.1 (by simp) (by simp) (by omega) (by simpa using hhl) hF (by omega) h1.2.2 (fun i hi=>Nat.le_trans (h2.2 i hi) (by omega)) (by omega) hst (by omega)
section
variable {h:aC}{fz:Nat->Bool}{σ:Nat->Option Nat}
theorem g8 {i j:Nat}{ns:List Nd}{b bx bx':Bool}(hi:fz i=true) (hj:fz j=true) (gi:h.get i=some (.cells [.sl j 0 ns.length ns.length 2 false,boo b] bx)) (gj:h.get j=some (.cells (ns.flatMap ndC) bx')):Rd h fz σ (.ptr i 0) (iI ns b):=by
 refine .frzp hi gi (.cons ?_ (.cons (.same rfl) .nil));refine .frz hj gj (by rw[aq (c:=ndC) (sz:=2) (fun _=>rfl)];omega) (.eqs ?_ (aD kz _));rw[List.drop_zero,kE (by rw[aq (c:=ndC) (sz:=2) (fun _=>rfl)];exact kP _)]
end
abbrev maB (n e:Nat) (b:Bool) (next:List (List Nat)) (hits:List Bool) (roots:List Nat):List (Nat×Box):=
 (0,.cells (mcC n e b (ai 1 1 next) (ai 2 1 hits) (ai 3 1 roots)) true)::(cW 1 ntC next++(cW 2 blC hits++cW 3 nkC roots))
abbrev maR (n e:Nat) (b:Bool) (next:List (List Nat)) (hits:List Bool) (roots:List Nat):List (Nat×Box):=
 [(0,.cells (mcC n e b (ai 4 1 next) (ai 5 1 hits) (ai 6 1 roots)) true),(4,.cells (next.flatMap ntC) false),(5,.cells (hits.flatMap blC) false),(6,.cells (roots.flatMap nkC) false)]
abbrev clF (base:Nat) (ns:List Nd) (b:Bool):D:=.fn (.func 129) [] [.ptr 9 0,.iptr [i64 (base:Int)],.ptr 8 0,.ptr 7 0,iI ns b]
abbrev msH (n e:Nat) (b:Bool) (base:Nat) (ss nxt:List (List Nat)) (hits:List Bool) (roots:List Nat):List (Nat×Box):=
 (7,.cells [.ptr 0 0] true)::(8,.cells [.sl 11 0 ss.length ss.length 1 false] true)::(9,.cells [.map 10] true)::(10,.map (pos (cJ ss) base))::(11,.cells (ss.flatMap nsC) false)::(0,.cells (mcC n e b (ai 4 1 nxt) (.sl 5 0 hits.length hits.length 1 false) (ai 6 1 roots)) true)::(5,.cells (hits.flatMap blC) false)::(6,.cells (roots.flatMap nkC) false)::cW 4 ntC nxt
structure MSt where
 f:Nat
 i:Nat
 ss:List (List Nat)
 nxt:List (List Nat)
 hits:List Bool
structure RSt where
 c:Nat
 ss:List (List Nat)
 hits:List Bool
 row:List Nat
set_option maxHeartbeats 8000000 in
theorem Fg {n e F base:Nat}{b:Bool}{ns:List Nd}{nx':List (List Nat)}{hi':List Bool}{roots:List Nat}{Q:Exit->St->Prop}(hF:F<=10000) (hn:n<=1000) (hb:base<=10000) (hok:tY ns=true)
  (hQ:∀ tm ss,Q (.exit 0) ⟨tm,⟨16,msH n e b base ss nx' hi' roots⟩⟩) (a:MSt) (ha:oF ns F n e base a.f a.i a.ss a.nxt a.hits=some (nx',hi')∧a.ss≠[]∧a.ss.length<=1001∧(∀ s∈a.ss,okS ns s=true)∧a.i<=a.ss.length∧a.hits.length=base+a.ss.length∧a.nxt.length=base+a.i) :
  aU Tryz.prog 4 (loopN Tryz.f97 0) Q ⟨tmp 83 [(2,.ptr 7 0),(4,iI ns b),(7,.ptr 8 0),(8,clF base ns b),(10,i64 (a.i:Int))],⟨12,msH n e b base a.ss a.nxt a.hits roots⟩⟩:=by
 refine aU.by aA T0 (fun a:MSt=>⟨tmp 83 [(2,.ptr 7 0),(4,iI ns b),(7,.ptr 8 0),(8,clF base ns b),(10,i64 (a.i:Int))],⟨12,msH n e b base a.ss a.nxt a.hits roots⟩⟩)
  (fun a=>oF ns F n e base a.f a.i a.ss a.nxt a.hits=some (nx',hi')∧a.ss≠[]∧a.ss.length<=1001∧(∀ s∈a.ss,okS ns s=true)∧a.i<=a.ss.length∧a.hits.length=base+a.ss.length∧a.nxt.length=base+a.i) (fun a=>a.f) a ha (Lf.refl _) ?_
 clear ha a;intro⟨f,i,ss,nxt,hits⟩ ⟨h1,hne,hss,hsl,hi,hhl,hnl⟩;dsimp only at h1 hne hss hsl hi hhl hnl ⊢;cases f with
 | zero=>simp[oF] at h1
 | succ f=>
 by_cases hlt:i<ss.length
 ·have hcur:ss[i]?=some ss[i]:=List.getElem?_eq_getElem hlt;have hoc:okS ns ss[i]=true:=hsl _ (kM hlt);generalize hgc:ss[i]=cur at hcur hoc;simp only[oF,hcur] at h1;clear hgc;cases hrow:rJ ns F e base cur n 0 ss hits [] with
  | none=>simp[hrow] at h1
  | some p=>
  obtain⟨row',ss',hits'⟩:=p;simp only[hrow] at h1;cases nxt with
  | nil=>
   repeat' ((conv=>whnf)<;>(first|refine sg ?_|exact kQ|(refine Br.mk ?_ ?_<;>intro _<;>try(exfalso;omega))|refine stq ?_|fail))
   refine aU.by aA T0 (fun a:RSt=>⟨tmp 83 [(2,.ptr 7 0),(4,iI ns b),(7,.ptr 8 0),(8,clF base ns b),(10,i64 (i:Int)),(11,.sl 12 0 n n 1 true),(57,i64 n),(58,i64 (a.c:Int))],⟨13,(12,j3 n a.row)::msH n e b base a.ss ([]:List (List Nat)) a.hits roots⟩⟩)
    (fun a=>rJ ns F e base cur (n-a.c) a.c a.ss a.hits a.row=some (row',ss',hits')∧a.c<=n∧a.row.length=a.c∧a.ss≠[]∧a.ss.length<=1001∧(∀ s∈a.ss,okS ns s=true)∧a.ss[i]?=some cur∧a.hits.length=base+a.ss.length) (fun a=>n-a.c) ⟨0,ss,hits,[]⟩ ⟨hrow,by dsimp only;omega,rfl,hne,hss,hsl,hcur,hhl⟩ ?_ ?_
   ·exact Lf.of2 [(5,_),(6,_),(7,_),(8,_),(9,_),(10,_),(11,_),(12,_)] [] (by repeat(first|exact aM.nil|refine aM.cons rfl (by first|exact Rd.same (aH _ _)|exact Rd.fn Rds.nil (Rds.cons (Rd.ptr rfl) (Rds.cons (Rd.same rfl) (Rds.cons (Rd.ptr rfl) (Rds.cons (Rd.ptr rfl) (Rds.cons (Rd.same (aH _ _)) Rds.nil)))))|exact Rd.owns rfl|exact rdA|fail) ?_)) (by repeat(first|exact Bxs.nil|refine Bxs.cons rfl rfl rfl (by first|exact Rb.cells (Rds.eqs (bE (by omega) (fun i _=>by simp)) (aW (fun _=>rfl))) rfl|exact Rb.map (Res.same (aa _ _))|exact rbB|exact Rb.cells (by(repeat(first|exact Rds.nil|refine Rds.cons (by first|exact Rd.same (aH _ _)|exact Rd.fn Rds.nil (Rds.cons (Rd.ptr rfl) (Rds.cons (Rd.same rfl) (Rds.cons (Rd.ptr rfl) (Rds.cons (Rd.ptr rfl) (Rds.cons (Rd.same (aH _ _)) Rds.nil)))))|exact Rd.owns rfl|exact rdA|fail) ?_|fail));(first|done|fail)) rfl|exact rbC|fail) ?_)) rfl rfl
   clear hrow hss hsl hcur hne hhl;intro⟨c,ss,hits,row⟩ ⟨hrow,hcn,hrl,hne,hss,hsl,hcur,hhl⟩;dsimp only at hrow hcn hrl hne hss hsl hcur hhl ⊢;have hgi:(ss.flatMap nsC)[i]?=some (dL cur):=by rw[ac];simp[hcur]
   have hil:i<ss.length:=(List.getElem?_eq_some_iff.1 hcur).1;by_cases hc:c<n
   ·rw[show n-c=(n-(c+1))+1 from by omega] at hrow;simp only[rJ] at hrow;cases hst:stp ns F cur (c:Int) with
    | none=>simp[hst] at hrow
    | some s=>
    simp only[hst] at hrow;have hstep:=BD (b:=b) (by omega) hok hoc hst;split at hrow
    ·rename_i hos;have h1:=gQ hos;by_cases hk:eY s∈cJ ss
     ·rw[if_pos hk] at hrow
      repeat' ((conv=>whnf)<;>(first|refine sg ?_|exact kQ|(refine Br.mk ?_ ?_<;>intro _<;>try(exfalso;omega))|refine stq ?_|refine ca.at i (by omega) (by omega) ?_|refine Get.one hgi ?_|refine Cll.pu hstep ?_|refine Cll.embF (yi (base:=base) (b:=b) (ns:=ns) (by omega) h1.2.1 hk) [(0,9),(1,10),(2,8),(4,7)] [] (i64 ((base+(cJ ss).idxOf (eY s):Nat):Int)) [(9,.cells [.map 10] true),(10,.map (pos (cJ ss) base))] [(7,.cells [.ptr 0 0] true),(8,.cells [.sl 11 0 ss.length ss.length 1 false] true),(11,.cells (ss.flatMap nsC) false),(0,.cells (mcC n e b (ai 4 1 ([]:List (List Nat))) (.sl 5 0 hits.length hits.length 1 false) (ai 6 1 roots)) true),(5,.cells (hits.flatMap blC) false),(6,.cells (roots.flatMap nkC) false),(12,j3 n row)] rfl (by(repeat(first|exact Rds.nil|refine Rds.cons (by first|exact Rd.same (aH _ _)|exact rdA|fail) ?_|fail));(first|done|fail)) (by(repeat(first|exact Bxs.nil|refine Bxs.cons rfl rfl rfl (by first|exact Rb.map (Res.same (aa _ _))|exact rbB|exact Rb.cells (by(repeat(first|exact Rds.nil|refine Rds.cons (by first|exact Rd.same (aH _ _)|exact rdA|fail) ?_|fail));(first|done|fail)) rfl|exact rbC|fail) ?_|fail));(first|done|fail)) (by first|exact Rd.same (aH _ _)|exact rdA|fail) (by(repeat(first|exact Bxs.nil|refine Bxs.cons rfl rfl rfl (by first|exact Rb.map (Res.same (aa _ _))|exact rbB|exact Rb.cells (by(repeat(first|exact Rds.nil|refine Rds.cons (by first|exact Rd.same (aH _ _)|exact rdA|fail) ?_|fail));(first|done|fail)) rfl|exact rbC|fail) ?_|fail));(first|done|fail)) (by(repeat(first|exact dM.nil|refine dM.cons rfl rfl rfl ?_|fail));(first|done|fail)) ?_|refine Put.one (by simp;omega) ?_|fail))
      all_goals(conv=>whnf)
      refine⟨⟨c+1,ss,hits,row++[base+(cJ ss).idxOf (eY s)]⟩,⟨hrow,by dsimp only;omega,by simp[hrl],hne,hss,hsl,hcur,hhl⟩,by dsimp only;omega,?_⟩;exact Lf.of2 [(5,_),(6,_),(7,_),(8,_),(9,_),(10,_),(11,_),(12,_)] [] (by repeat(first|exact aM.nil|refine aM.cons rfl (by first|exact Rd.same (aH _ _)|exact Rd.fn Rds.nil (Rds.cons (Rd.ptr rfl) (Rds.cons (Rd.same rfl) (Rds.cons (Rd.ptr rfl) (Rds.cons (Rd.ptr rfl) (Rds.cons (Rd.same (aH _ _)) Rds.nil)))))|exact Rd.owns rfl|exact rdA|fail) ?_)) (by repeat(first|exact Bxs.nil|refine Bxs.cons rfl rfl rfl (by first|exact Rb.cells (Rds.eqs (gu hrl) (aW (fun _=>rfl))) rfl|exact Rb.map (Res.same (aa _ _))|exact rbB|exact Rb.cells (by(repeat(first|exact Rds.nil|refine Rds.cons (by first|exact Rd.same (aH _ _)|exact Rd.fn Rds.nil (Rds.cons (Rd.ptr rfl) (Rds.cons (Rd.same rfl) (Rds.cons (Rd.ptr rfl) (Rds.cons (Rd.ptr rfl) (Rds.cons (Rd.same (aH _ _)) Rds.nil)))))|exact Rd.owns rfl|exact rdA|fail) ?_|fail));(first|done|fail)) rfl|exact rbC|fail) ?_)) rfl rfl
     ·rw[if_neg hk] at hrow;cases hst2:stp ns F s (e:Int) with
      | none=>simp[hst2] at hrow
      | some r=>
      simp only[hst2] at hrow;split at hrow
      ·rename_i hor;have hh0:hits≠[]:=fun h=>by rw[h] at hhl;simp at hhl;omega
       repeat' ((conv=>whnf)<;>(first|refine sg ?_|exact kQ|(refine Br.mk ?_ ?_<;>intro _<;>try(exfalso;omega))|refine stq ?_|refine ca.at i (by omega) (by omega) ?_|refine Get.one hgi ?_|refine Cll.pu hstep ?_|refine Cll.embF (Fe (n:=n) (e:=e) (next:=([]:List (List Nat))) (roots:=roots) (b:=b) hne hh0 hok hos hor.1 hk hor.2 hb hhl (by omega) hst2) [(0,9),(1,10),(2,8),(3,11),(4,7),(5,0),(6,5),(7,4),(8,6)] [] (i64 ((base+ss.length:Nat):Int)) [(9,.cells [.map 10] true),(10,.map (pos (cJ (ss++[s])) base)),(8,.cells [.sl 26 0 (ss++[s]).length (ss++[s]).length 1 false] true),(26,.cells ((ss++[s]).flatMap nsC) false),(7,.cells [.ptr 0 0] true),(0,.cells (mcC n e b (ai 4 1 ([]:List (List Nat))) (.sl 27 0 (hits++[decide (r=[0])]).length (hits++[decide (r=[0])]).length 1 false) (ai 6 1 roots)) true),(27,.cells ((hits++[decide (r=[0])]).flatMap blC) false)] [(6,.cells (roots.flatMap nkC) false),(12,j3 n row)] rfl (by(repeat(first|exact Rds.nil|refine Rds.cons (by first|exact Rd.same (aH _ _)|exact Rd.owns rfl|exact rdA|fail) ?_|fail));(first|done|fail)) (by(repeat(first|exact Bxs.nil|refine Bxs.cons rfl rfl rfl (by first|exact Rb.map (Res.same (aa _ _))|exact rbB|exact Rb.cells (by(repeat(first|exact Rds.nil|refine Rds.cons (by first|exact Rd.same (aH _ _)|exact Rd.owns rfl|exact rdA|fail) ?_|fail));(first|done|fail)) rfl|exact rbC|fail) ?_|fail));(first|done|fail)) (by first|exact Rd.same (aH _ _)|exact Rd.owns rfl|exact rdA|fail) (by(repeat(first|exact Bxs.nil|refine Bxs.cons rfl rfl rfl (by first|exact Rb.map (Res.same (aa _ _))|exact rbB|exact Rb.cells (by(repeat(first|exact Rds.nil|refine Rds.cons (by first|exact Rd.same (aH _ _)|exact Rd.owns rfl|exact rdA|fail) ?_|fail));(first|done|fail)) rfl|exact rbC|fail) ?_|fail));(first|done|fail)) (by(repeat(first|exact dM.nil|refine dM.cons rfl rfl rfl ?_|fail));(first|done|fail)) ?_|refine Put.one (by simp;omega) ?_|fail))
       all_goals(conv=>whnf)
       refine⟨⟨c+1,ss++[s],hits++[decide (r=[0])],row++[base+ss.length]⟩,⟨hrow,by dsimp only;omega,by simp[hrl],by simp,by simp;omega,fun x hx=>?_,by dsimp only;rw[List.getElem?_append_left hil];exact hcur,by simp;omega⟩,by dsimp only;omega,?_⟩
       ·rcases List.mem_append.1 hx with hx|hx
        ·exact hsl x hx
        ·simp at hx;subst hx;exact hos
       exact Lf.of2 [(5,_),(6,_),(7,_),(8,_),(9,_),(10,_),(11,_),(12,_)] [] (by repeat(first|exact aM.nil|refine aM.cons rfl (by first|exact Rd.same (aH _ _)|exact Rd.fn Rds.nil (Rds.cons (Rd.ptr rfl) (Rds.cons (Rd.same rfl) (Rds.cons (Rd.ptr rfl) (Rds.cons (Rd.ptr rfl) (Rds.cons (Rd.same (aH _ _)) Rds.nil)))))|exact Rd.owns rfl|exact rdA|fail) ?_)) (by repeat(first|exact Bxs.nil|refine Bxs.cons rfl rfl rfl (by first|exact Rb.cells (Rds.eqs (gu hrl) (aW (fun _=>rfl))) rfl|exact Rb.map (Res.same (aa _ _))|exact rbB|exact Rb.cells (by(repeat(first|exact Rds.nil|refine Rds.cons (by first|exact Rd.same (aH _ _)|exact Rd.fn Rds.nil (Rds.cons (Rd.ptr rfl) (Rds.cons (Rd.same rfl) (Rds.cons (Rd.ptr rfl) (Rds.cons (Rd.ptr rfl) (Rds.cons (Rd.same (aH _ _)) Rds.nil)))))|exact Rd.owns rfl|exact rdA|fail) ?_|fail));(first|done|fail)) rfl|exact rbC|fail) ?_)) rfl rfl
      ·cases hrow
    ·cases hrow
   ·rw[show n-c=0 from by omega] at hrow;simp only[rJ,kA,kB] at hrow;obtain⟨rfl,rfl,rfl⟩:=hrow;obtain rfl:c=n:=by omega
    repeat' ((conv=>whnf)<;>(first|refine sg ?_|exact kQ|(refine Br.mk ?_ ?_<;>intro _<;>try(exfalso;omega))|refine stq ?_|refine bJ.by (id:=17) aA T0 [0,0,2,6,14,0,32,126,255,511,1023] (by kernel_rfl) ?_|refine Chk.mk ⟨_,rfl⟩ ?_|fail))
    all_goals(conv=>whnf)
    refine⟨⟨f,i+1,ss,([]:List (List Nat))++[row],hits⟩,⟨h1,hne,hss,hsl,by dsimp only;omega,hhl,by simp at hnl ⊢;omega⟩,by dsimp only;omega,?_⟩;exact Lf.of2 [(4,_),(5,_),(6,_),(7,_),(8,_),(9,_),(10,_),(11,_)] [12] (by repeat(first|exact aM.nil|refine aM.cons rfl (by first|exact Rd.same (aH _ _)|exact Rd.fn Rds.nil (Rds.cons (Rd.ptr rfl) (Rds.cons (Rd.same rfl) (Rds.cons (Rd.ptr rfl) (Rds.cons (Rd.ptr rfl) (Rds.cons (Rd.same (aH _ _)) Rds.nil)))))|exact Rd.owns rfl|exact Rd.own (l:=([]:List (List Nat))++[row]) (by simp) rfl (by simp) (by simp)|exact rdA|fail) ?_)) (by repeat(first|exact Bxs.nil|refine Bxs.cons rfl rfl rfl (by first|exact Rb.map (Res.same (aa _ _))|exact Rb.cells (Rds.cons (lH rfl rfl hrl) Rds.nil) rfl|exact rbB|exact Rb.cells (by(repeat(first|exact Rds.nil|refine Rds.cons (by first|exact Rd.same (aH _ _)|exact Rd.fn Rds.nil (Rds.cons (Rd.ptr rfl) (Rds.cons (Rd.same rfl) (Rds.cons (Rd.ptr rfl) (Rds.cons (Rd.ptr rfl) (Rds.cons (Rd.same (aH _ _)) Rds.nil)))))|exact Rd.owns rfl|exact Rd.own (l:=([]:List (List Nat))++[row]) (by simp) rfl (by simp) (by simp)|exact rdA|fail) ?_|fail));(first|done|fail)) rfl|exact rbC|fail) ?_)) rfl rfl
  | cons x xs=>
   have hx2:(x::xs).length=xs.length+1:=rfl;repeat' ((conv=>whnf)<;>(first|refine sg ?_|exact kQ|(refine Br.mk ?_ ?_<;>intro _<;>try(exfalso;omega))|refine stq ?_|fail))
   refine aU.by aA T0 (fun a:RSt=>⟨tmp 83 [(2,.ptr 7 0),(4,iI ns b),(7,.ptr 8 0),(8,clF base ns b),(10,i64 (i:Int)),(11,.sl 12 0 n n 1 true),(57,i64 n),(58,i64 (a.c:Int))],⟨13,(12,j3 n a.row)::msH n e b base a.ss (x::xs) a.hits roots⟩⟩)
    (fun a=>rJ ns F e base cur (n-a.c) a.c a.ss a.hits a.row=some (row',ss',hits')∧a.c<=n∧a.row.length=a.c∧a.ss≠[]∧a.ss.length<=1001∧(∀ s∈a.ss,okS ns s=true)∧a.ss[i]?=some cur∧a.hits.length=base+a.ss.length) (fun a=>n-a.c) ⟨0,ss,hits,[]⟩ ⟨hrow,by dsimp only;omega,rfl,hne,hss,hsl,hcur,hhl⟩ ?_ ?_
   ·exact Lf.of2 [(4,_),(5,_),(6,_),(7,_),(8,_),(9,_),(10,_),(11,_),(12,_)] [] (by repeat(first|exact aM.nil|refine aM.cons rfl (by first|exact Rd.same (aH _ _)|exact Rd.fn Rds.nil (Rds.cons (Rd.ptr rfl) (Rds.cons (Rd.same rfl) (Rds.cons (Rd.ptr rfl) (Rds.cons (Rd.ptr rfl) (Rds.cons (Rd.same (aH _ _)) Rds.nil)))))|exact Rd.owns rfl|exact rdA|fail) ?_)) (by repeat(first|exact Bxs.nil|refine Bxs.cons rfl rfl rfl (by first|exact Rb.cells (Rds.eqs (bE (by omega) (fun i _=>by simp)) (aW (fun _=>rfl))) rfl|exact Rb.map (Res.same (aa _ _))|exact rbB|exact Rb.cells (by(repeat(first|exact Rds.nil|refine Rds.cons (by first|exact Rd.same (aH _ _)|exact Rd.fn Rds.nil (Rds.cons (Rd.ptr rfl) (Rds.cons (Rd.same rfl) (Rds.cons (Rd.ptr rfl) (Rds.cons (Rd.ptr rfl) (Rds.cons (Rd.same (aH _ _)) Rds.nil)))))|exact Rd.owns rfl|exact rdA|fail) ?_|fail));(first|done|fail)) rfl|exact rbC|fail) ?_)) rfl rfl
   clear hrow hss hsl hcur hne hhl;intro⟨c,ss,hits,row⟩ ⟨hrow,hcn,hrl,hne,hss,hsl,hcur,hhl⟩;dsimp only at hrow hcn hrl hne hss hsl hcur hhl ⊢;have hgi:(ss.flatMap nsC)[i]?=some (dL cur):=by rw[ac];simp[hcur]
   have hil:i<ss.length:=(List.getElem?_eq_some_iff.1 hcur).1;by_cases hc:c<n
   ·rw[show n-c=(n-(c+1))+1 from by omega] at hrow;simp only[rJ] at hrow;cases hst:stp ns F cur (c:Int) with
    | none=>simp[hst] at hrow
    | some s=>
    simp only[hst] at hrow;have hstep:=BD (b:=b) (by omega) hok hoc hst;split at hrow
    ·rename_i hos;have h1:=gQ hos;by_cases hk:eY s∈cJ ss
     ·rw[if_pos hk] at hrow
      repeat' ((conv=>whnf)<;>(first|refine sg ?_|exact kQ|(refine Br.mk ?_ ?_<;>intro _<;>try(exfalso;omega))|refine stq ?_|refine ca.at i (by omega) (by omega) ?_|refine Get.one hgi ?_|refine Cll.pu hstep ?_|refine Cll.embF (yi (base:=base) (b:=b) (ns:=ns) (by omega) h1.2.1 hk) [(0,9),(1,10),(2,8),(4,7)] [] (i64 ((base+(cJ ss).idxOf (eY s):Nat):Int)) [(9,.cells [.map 10] true),(10,.map (pos (cJ ss) base))] [(7,.cells [.ptr 0 0] true),(8,.cells [.sl 11 0 ss.length ss.length 1 false] true),(11,.cells (ss.flatMap nsC) false),(0,.cells (mcC n e b (ai 4 1 (x::xs)) (.sl 5 0 hits.length hits.length 1 false) (ai 6 1 roots)) true),(5,.cells (hits.flatMap blC) false),(6,.cells (roots.flatMap nkC) false),(12,j3 n row),(4,.cells ((x::xs).flatMap ntC) false)] rfl (by(repeat(first|exact Rds.nil|refine Rds.cons (by first|exact Rd.same (aH _ _)|exact rdA|fail) ?_|fail));(first|done|fail)) (by(repeat(first|exact Bxs.nil|refine Bxs.cons rfl rfl rfl (by first|exact Rb.map (Res.same (aa _ _))|exact rbB|exact Rb.cells (by(repeat(first|exact Rds.nil|refine Rds.cons (by first|exact Rd.same (aH _ _)|exact rdA|fail) ?_|fail));(first|done|fail)) rfl|exact rbC|fail) ?_|fail));(first|done|fail)) (by first|exact Rd.same (aH _ _)|exact rdA|fail) (by(repeat(first|exact Bxs.nil|refine Bxs.cons rfl rfl rfl (by first|exact Rb.map (Res.same (aa _ _))|exact rbB|exact Rb.cells (by(repeat(first|exact Rds.nil|refine Rds.cons (by first|exact Rd.same (aH _ _)|exact rdA|fail) ?_|fail));(first|done|fail)) rfl|exact rbC|fail) ?_|fail));(first|done|fail)) (by(repeat(first|exact dM.nil|refine dM.cons rfl rfl rfl ?_|fail));(first|done|fail)) ?_|refine Put.one (by simp;omega) ?_|fail))
      all_goals(conv=>whnf)
      refine⟨⟨c+1,ss,hits,row++[base+(cJ ss).idxOf (eY s)]⟩,⟨hrow,by dsimp only;omega,by simp[hrl],hne,hss,hsl,hcur,hhl⟩,by dsimp only;omega,?_⟩;exact Lf.of2 [(4,_),(5,_),(6,_),(7,_),(8,_),(9,_),(10,_),(11,_),(12,_)] [] (by repeat(first|exact aM.nil|refine aM.cons rfl (by first|exact Rd.same (aH _ _)|exact Rd.fn Rds.nil (Rds.cons (Rd.ptr rfl) (Rds.cons (Rd.same rfl) (Rds.cons (Rd.ptr rfl) (Rds.cons (Rd.ptr rfl) (Rds.cons (Rd.same (aH _ _)) Rds.nil)))))|exact Rd.owns rfl|exact rdA|fail) ?_)) (by repeat(first|exact Bxs.nil|refine Bxs.cons rfl rfl rfl (by first|exact Rb.cells (Rds.eqs (gu hrl) (aW (fun _=>rfl))) rfl|exact Rb.map (Res.same (aa _ _))|exact rbB|exact Rb.cells (by(repeat(first|exact Rds.nil|refine Rds.cons (by first|exact Rd.same (aH _ _)|exact Rd.fn Rds.nil (Rds.cons (Rd.ptr rfl) (Rds.cons (Rd.same rfl) (Rds.cons (Rd.ptr rfl) (Rds.cons (Rd.ptr rfl) (Rds.cons (Rd.same (aH _ _)) Rds.nil)))))|exact Rd.owns rfl|exact rdA|fail) ?_|fail));(first|done|fail)) rfl|exact rbC|fail) ?_)) rfl rfl
     ·rw[if_neg hk] at hrow;cases hst2:stp ns F s (e:Int) with
      | none=>simp[hst2] at hrow
      | some r=>
      simp only[hst2] at hrow;split at hrow
      ·rename_i hor;have hh0:hits≠[]:=fun h=>by rw[h] at hhl;simp at hhl;omega
       repeat' ((conv=>whnf)<;>(first|refine sg ?_|exact kQ|(refine Br.mk ?_ ?_<;>intro _<;>try(exfalso;omega))|refine stq ?_|refine ca.at i (by omega) (by omega) ?_|refine Get.one hgi ?_|refine Cll.pu hstep ?_|refine Cll.embF (Fe (n:=n) (e:=e) (next:=(x::xs)) (roots:=roots) (b:=b) hne hh0 hok hos hor.1 hk hor.2 hb hhl (by omega) hst2) [(0,9),(1,10),(2,8),(3,11),(4,7),(5,0),(6,5),(7,4),(8,6)] [] (i64 ((base+ss.length:Nat):Int)) [(9,.cells [.map 10] true),(10,.map (pos (cJ (ss++[s])) base)),(8,.cells [.sl 26 0 (ss++[s]).length (ss++[s]).length 1 false] true),(26,.cells ((ss++[s]).flatMap nsC) false),(7,.cells [.ptr 0 0] true),(0,.cells (mcC n e b (ai 4 1 (x::xs)) (.sl 27 0 (hits++[decide (r=[0])]).length (hits++[decide (r=[0])]).length 1 false) (ai 6 1 roots)) true),(27,.cells ((hits++[decide (r=[0])]).flatMap blC) false)] [(6,.cells (roots.flatMap nkC) false),(12,j3 n row),(4,.cells ((x::xs).flatMap ntC) false)] rfl (by(repeat(first|exact Rds.nil|refine Rds.cons (by first|exact Rd.same (aH _ _)|exact Rd.owns rfl|exact rdA|fail) ?_|fail));(first|done|fail)) (by(repeat(first|exact Bxs.nil|refine Bxs.cons rfl rfl rfl (by first|exact Rb.map (Res.same (aa _ _))|exact rbB|exact Rb.cells (by(repeat(first|exact Rds.nil|refine Rds.cons (by first|exact Rd.same (aH _ _)|exact Rd.owns rfl|exact rdA|fail) ?_|fail));(first|done|fail)) rfl|exact rbC|fail) ?_|fail));(first|done|fail)) (by first|exact Rd.same (aH _ _)|exact Rd.owns rfl|exact rdA|fail) (by(repeat(first|exact Bxs.nil|refine Bxs.cons rfl rfl rfl (by first|exact Rb.map (Res.same (aa _ _))|exact rbB|exact Rb.cells (by(repeat(first|exact Rds.nil|refine Rds.cons (by first|exact Rd.same (aH _ _)|exact Rd.owns rfl|exact rdA|fail) ?_|fail));(first|done|fail)) rfl|exact rbC|fail) ?_|fail));(first|done|fail)) (by(repeat(first|exact dM.nil|refine dM.cons rfl rfl rfl ?_|fail));(first|done|fail)) ?_|refine Put.one (by simp;omega) ?_|fail))
       all_goals(conv=>whnf)
       refine⟨⟨c+1,ss++[s],hits++[decide (r=[0])],row++[base+ss.length]⟩,⟨hrow,by dsimp only;omega,by simp[hrl],by simp,by simp;omega,fun x hx=>?_,by dsimp only;rw[List.getElem?_append_left hil];exact hcur,by simp;omega⟩,by dsimp only;omega,?_⟩
       ·rcases List.mem_append.1 hx with hx|hx
        ·exact hsl x hx
        ·simp at hx;subst hx;exact hos
       exact Lf.of2 [(4,_),(5,_),(6,_),(7,_),(8,_),(9,_),(10,_),(11,_),(12,_)] [] (by repeat(first|exact aM.nil|refine aM.cons rfl (by first|exact Rd.same (aH _ _)|exact Rd.fn Rds.nil (Rds.cons (Rd.ptr rfl) (Rds.cons (Rd.same rfl) (Rds.cons (Rd.ptr rfl) (Rds.cons (Rd.ptr rfl) (Rds.cons (Rd.same (aH _ _)) Rds.nil)))))|exact Rd.owns rfl|exact rdA|fail) ?_)) (by repeat(first|exact Bxs.nil|refine Bxs.cons rfl rfl rfl (by first|exact Rb.cells (Rds.eqs (gu hrl) (aW (fun _=>rfl))) rfl|exact Rb.map (Res.same (aa _ _))|exact rbB|exact Rb.cells (by(repeat(first|exact Rds.nil|refine Rds.cons (by first|exact Rd.same (aH _ _)|exact Rd.fn Rds.nil (Rds.cons (Rd.ptr rfl) (Rds.cons (Rd.same rfl) (Rds.cons (Rd.ptr rfl) (Rds.cons (Rd.ptr rfl) (Rds.cons (Rd.same (aH _ _)) Rds.nil)))))|exact Rd.owns rfl|exact rdA|fail) ?_|fail));(first|done|fail)) rfl|exact rbC|fail) ?_)) rfl rfl
      ·cases hrow
    ·cases hrow
   ·rw[show n-c=0 from by omega] at hrow;simp only[rJ,kA,kB] at hrow;obtain⟨rfl,rfl,rfl⟩:=hrow;obtain rfl:c=n:=by omega
    repeat' ((conv=>whnf)<;>(first|refine sg ?_|exact kQ|(refine Br.mk ?_ ?_<;>intro _<;>try(exfalso;omega))|refine stq ?_|refine bJ.by (id:=17) aA T0 [0,0,2,6,14,0,32,126,255,511,1023] (by kernel_rfl) ?_|refine Chk.mk ⟨_,rfl⟩ ?_|fail))
    all_goals(conv=>whnf)
    refine⟨⟨f,i+1,ss,(x::xs)++[row],hits⟩,⟨h1,hne,hss,hsl,by dsimp only;omega,hhl,by simp at hnl ⊢;omega⟩,by dsimp only;omega,?_⟩;exact Lf.of2 [(4,_),(5,_),(6,_),(7,_),(8,_),(9,_),(10,_),(11,_)] [12] (by repeat(first|exact aM.nil|refine aM.cons rfl (by first|exact Rd.same (aH _ _)|exact Rd.fn Rds.nil (Rds.cons (Rd.ptr rfl) (Rds.cons (Rd.same rfl) (Rds.cons (Rd.ptr rfl) (Rds.cons (Rd.ptr rfl) (Rds.cons (Rd.same (aH _ _)) Rds.nil)))))|exact Rd.owns rfl|exact Rd.own (l:=(x::xs)++[row]) (by simp) rfl (by simp) (by simp)|exact rdA|fail) ?_)) (by repeat(first|exact Bxs.nil|refine Bxs.cons rfl rfl rfl (by first|exact Rb.map (Res.same (aa _ _))|exact Rb.cells (gG (l:=x::xs) (lH rfl rfl hrl)) rfl|exact rbB|exact Rb.cells (by(repeat(first|exact Rds.nil|refine Rds.cons (by first|exact Rd.same (aH _ _)|exact Rd.fn Rds.nil (Rds.cons (Rd.ptr rfl) (Rds.cons (Rd.same rfl) (Rds.cons (Rd.ptr rfl) (Rds.cons (Rd.ptr rfl) (Rds.cons (Rd.same (aH _ _)) Rds.nil)))))|exact Rd.owns rfl|exact Rd.own (l:=(x::xs)++[row]) (by simp) rfl (by simp) (by simp)|exact rdA|fail) ?_|fail));(first|done|fail)) rfl|exact rbC|fail) ?_)) rfl rfl
 ·have h2:ss[i]?=none:=List.getElem?_eq_none (by omega);simp only[oF,h2,kA,kB] at h1;obtain⟨rfl,rfl⟩:=h1;cases nxt with
  | nil=>
   repeat' ((conv=>whnf)<;>(first|refine sg ?_|exact kQ|(refine Br.mk ?_ ?_<;>intro _<;>try(exfalso;omega))|refine stq ?_|exact hQ _ _|fail))
  | cons x xs=>
   repeat' ((conv=>whnf)<;>(first|refine sg ?_|exact kQ|(refine Br.mk ?_ ?_<;>intro _<;>try(exfalso;omega))|refine stq ?_|exact hQ _ _|fail))
end Go.Proofs.YtjpgpihbhicinaaGreatDoor
