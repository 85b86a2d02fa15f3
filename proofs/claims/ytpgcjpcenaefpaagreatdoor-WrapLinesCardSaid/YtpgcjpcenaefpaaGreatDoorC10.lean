/-
  Contracts of functions over data: a pattern added to a machine.
-/
import Derived.Test.YtpgcjpcenaefpaaGreatDoorC7
import Derived.Test.YtpgcjpcenaefpaaGreatDoorC8
import Derived.Test.YtpgcjpcenaefpaaGreatDoorAmF
set_option linter.unusedSectionVars false
namespace Go.Proofs.YtpgcjpcenaefpaaGreatDoor
open Go Go.Am Classical
set_option maxRecDepth 100000
theorem xC10.rdX {p:Prop}(h:p:=by first|exact Rd.same (fO _ _)|exact Rd.fn Rds.nil (Rds.cons (Rd.ptr rfl) (Rds.cons (Rd.same rfl) (Rds.cons (Rd.ptr rfl) (Rds.cons (Rd.ptr rfl) (Rds.cons (Rd.same (fO _ _)) Rds.nil)))))|exact Rd.owns rfl|exact Rd.own (l:=([]:List (List Nat))++[row]) sim rfl sim sim|exact Rd.own (l:=(x::xs)++[row]) sim rfl sim sim|fail):p:=h
theorem xC10.rbX {p:Prop}(h:p:=by first|exact Rb.map (Res.same (dX _ _))|exact Rb.cells (Rds.eqs (Ag hrl) (ai (λ_=>rfl))) rfl|exact Rb.cells (Rds.cons (pS rfl rfl hrl) Rds.nil) rfl|exact Rb.cells (mi (l:=x::xs) (pS rfl rfl hrl)) rfl|exact Rb.cells (Rds.eqs (bJ om (λi _=>by first|(simp;done)|fail)) (ai (λ_=>rfl))) rfl|fail):p:=h
open xC10
variable [GT]
abbrev nkC (k:Nat):List D:=[cP k]
theorem nr (k:Nat):aF (nkC k)=true:=rfl
theorem CP (k:Bool):aF (blC k)=true:=rfl
def okS (ns:List Nd) (s:List Nat):Bool:=s.all (λx=>Nat.blt x ns.length&&Nat.blt x 100)&&Nat.ble s.length 100
def uy (ns:List Nd):Bool:=Nat.ble ns.length 1000&&ns.all (λn=>Nat.ble n.cls.length 1000&&Nat.ble n.to.length 100)
def r9 (ns:List Nd) (F e base:Nat) (cur:List Nat):Nat->Nat->List (List Nat)->List Bool->List Nat->Option (List Nat×List (List Nat)×List Bool)
 | 0,_,ss,hits,row=>some (row,ss,hits)
 | k+1,c,ss,hits,row=>
  match stp ns F cur (c:Int) with
  | none=>none
  | some s=>
   if okS ns s then
    if eV s∈bw ss then r9 ns F e base cur k (c+1) ss hits (row++[base+(bw ss).idxOf (eV s)])
    else
     match stp ns F s (e:Int) with
     | none=>none
     | some r=>if okS ns r/\ss.length<=1000 then r9 ns F e base cur k (c+1) (ss++[s]) (hits++[decide (r=[0])]) (row++[base+ss.length]) else none
   else none
def oT (ns:List Nd) (F n e base:Nat):Nat->Nat->List (List Nat)->List (List Nat)->List Bool->Option (List (List Nat)×List Bool)
 | 0,_,_,_,_=>none
 | f+1,i,ss,next,hits=>
  match ss[i]? with
  | none=>some (next,hits)
  | some cur=>
   match r9 ns F e base cur n 0 ss hits [] with
   | none=>none
   | some (row,ss',hits')=>oT ns F n e base f (i+1) ss' (next++[row]) hits'
def vu (b:Bool) (F n e:Nat) (p:Pat) (next:List (List Nat)) (hits:List Bool) (roots:List Nat):Option (List (List Nat)×List Bool×List Nat):=
 match lT b F p 0 [⟨[],[]⟩] with
 | none=>none
 | some (first,ns)=>
  if uy ns then
   match clo ns F [] [first] [] with
   | none=>none
   | some s0=>
    if okS ns s0 then
     match stp ns F s0 (e:Int) with
     | none=>none
     | some r=>
      if okS ns r then
       match oT ns F n e next.length F 0 [s0] next (hits++[decide (r=[0])]) with
       | none=>none
       | some (next',hits')=>if next'≠[]/\hits'.length=next'.length/\next'.length<=10000 then some (next',hits',roots++[next.length]) else none
      else none
    else none
  else none
theorem ge {ns:List Nd}{s:List Nat}(h:okS ns s=true):s.length<=100/\(∀ i (h:i<s.length),s[i]<100)/\∀ i (h:i<s.length),s[i]<ns.length:=by
 simp only[okS,kC,kL,Nat.blt_eq,Nat.ble_eq] at h;exact⟨h.2,λi hi=>(h.1 _ (kM hi)).2,λi hi=>(h.1 _ (kM hi)).1⟩
theorem lI {ns:List Nd}{c:Int}(h:uy ns=true):∀ s:List Nat,(gat ns c s).length<=s.length*100
 | []=>by simp[gat]
 | i::l=>by
  have ih:=lI (c:=c) h l;simp only[gat,kG,kO];split
  .rename_i n hn;split
   .have h1:n.to.length<=100:=by
     simp only[uy,kC,kL,Nat.ble_eq] at h;exact(h.2 n (List.mem_of_getElem? hn)).2
    omega
   .simp only[List.length_nil];omega
  .simp only[List.length_nil];omega
theorem lA {ns:List Nd}(h:uy ns=true):ns.length<=1000/\∀ i (h:i<ns.length),ns[i].cls.length<=1000:=by
 simp only[uy,kC,kL,Nat.ble_eq] at h;exact⟨h.1,λi hi=>(h.2 _ (kM hi)).1⟩
theorem Dq {ns:List Nd}{b:Bool}{s r:List Nat}{c:Int}{F:Nat}(hF:F<=100000) (hn:uy ns=true) (hs:okS ns s=true) (h:stp ns F s c=some r):Pu Tryz.prog 144 [iP ns b,dG s,i64 c] (dG r):=by
 have h1:=ge hs;have h2:=lA hn;have h3:=lI (c:=c) hn s;exact Dr hF om h1.2.2 om (λi hi=>Nat.le_trans (h2.2 i hi) om) om h
abbrev nuN (n e base:Nat) (b:Bool) (ss:List (List Nat)) (next:List (List Nat)) (hits:List Bool) (roots:List Nat):List (Nat×Box):=
 [(0,.cells [.map 1] true),(1,.map (pos (bw ss) base)),(2,.cells [.sl 3 0 ss.length ss.length 1 false] true),(3,.cells (ss.flatMap nsC) false),(4,.cells [.ptr 5 0] true),(5,.cells (mcC n e b (aP 7 1 next) (.sl 6 0 hits.length hits.length 1 false) (aP 8 1 roots)) true),(6,.cells (hits.flatMap blC) false)]
theorem AC1.same {P:Program}{g:FuncId}{ds:List D}{h h0:aA}{d:D}{h':aA}(hp:AC1 P g ds h d h') (hn:h.next=h0.next) (he:∀ j,h.get j=h0.get j):AC1 P g ds h0 d h':=AC1.congr ⟨hn,he⟩ (Heq.refl _) hp
theorem Iy {n e base F:Nat}{b:Bool}{ns:List Nd}{ss next:List (List Nat)}{s r:List Nat}{hits:List Bool}{roots:List Nat}(hs0:ss≠[]) (hh0:hits≠[]) (hn:uy ns=true) (hs:okS ns s=true) (hr:okS ns r=true) (hk:¬eV s∈bw ss) (hsl:ss.length<=1000) (hbase:base<=10000)
  (hhl:hits.length=base+ss.length) (hF:F<=100000) (hst:stp ns F s (e:Int)=some r) :
  AC1 Tryz.prog 141 [dG s,.ptr 0 0,.iptr [i64 (base:Int)],.ptr 2 0,.ptr 4 0,iP ns b]
   ⟨9,nuN n e base b ss next hits roots⟩ (i64 ((base+ss.length:Nat):Int)) ⟨11,nuR n e base b (ss++[s]) next (hits++[decide (r=[0])]) roots⟩:=by
 have h1:=ge hs;have h2:=lA hn;have h3:=lI (c:=(e:Int)) hn s;have h4:=ge hr;refine AC1.same (Eh (n:=n) (e:=e) (next:=next) (roots:=roots) (b:=b) om h1.2.1 hk om om hhl hF om h1.2.2 (λi hi=>Nat.le_trans (h2.2 i hi) om) om hst om) rfl λj=>?_
 cases ss with
 | nil=>exact absurd rfl hs0
 | cons t ts=>
  cases hits with
  | nil=>exact absurd rfl hh0
  | cons y ys=>
   simp only[aA.get,bK,aW,List.cons_append,List.nil_append,aP];by_cases e3:3=j
   .subst e3;simp
   .simp only[e3,if_false]
theorem Iz {n e base F:Nat}{b:Bool}{ns:List Nd}{next:List (List Nat)}{s r:List Nat}{hits:List Bool}{roots:List Nat}(hn:uy ns=true) (hs:okS ns s=true) (hr:okS ns r=true) (hbase:base<=10000)
  (hhl:hits.length=base) (hF:F<=100000) (hst:stp ns F s (e:Int)=some r) :
  AC1 Tryz.prog 141 [dG s,.ptr 0 0,.iptr [i64 (base:Int)],.ptr 2 0,.ptr 4 0,iP ns b]
   ⟨9,nuB n e base b [] next hits roots⟩ (i64 ((base:Nat):Int)) ⟨11,nuR n e base b [s] next (hits++[decide (r=[0])]) roots⟩:=by
 have h1:=ge hs;have h2:=lA hn;have h3:=lI (c:=(e:Int)) hn s;have h4:=ge hr;exact Eh (n:=n) (e:=e) (next:=next) (roots:=roots) (b:=b) (ss:=[]) om h1.2.1 si si om (by simpa using hhl) hF om h1.2.2 (λi hi=>Nat.le_trans (h2.2 i hi) om) om hst om
section
variable {h:aA}{fz:Nat->Bool}{σ:Nat->Option Nat}
theorem BD {i j:Nat}{ns:List Nd}{b bx bx':Bool}(hi:fz i=true) (hj:fz j=true) (gi:h.get i=some (.cells [.sl j 0 ns.length ns.length 2 false,boo b] bx)) (gj:h.get j=some (.cells (ns.flatMap ndC) bx')):Rd h fz σ (.ptr i 0) (iP ns b):=by
 refine .frzp hi gi (.cons ?_ (.cons (.same rfl) .nil));refine .frz hj gj (by rw[aZ (c:=ndC) (sz:=2) (λ_=>rfl)];omega) (.eqs ?_ (aE lB _));rw[List.drop_zero,kE (by rw[aZ (c:=ndC) (sz:=2) (λ_=>rfl)];exact kP _)]
end
abbrev maB (n e:Nat) (b:Bool) (next:List (List Nat)) (hits:List Bool) (roots:List Nat):List (Nat×Box):=
 (0,.cells (mcC n e b (aP 1 1 next) (aP 2 1 hits) (aP 3 1 roots)) true)::(bK 1 ntC next++(bK 2 blC hits++bK 3 nkC roots))
abbrev maR (n e:Nat) (b:Bool) (next:List (List Nat)) (hits:List Bool) (roots:List Nat):List (Nat×Box):=
 [(0,.cells (mcC n e b (aP 4 1 next) (aP 5 1 hits) (aP 6 1 roots)) true),(4,.cells (next.flatMap ntC) false),(5,.cells (hits.flatMap blC) false),(6,.cells (roots.flatMap nkC) false)]
abbrev clF (base:Nat) (ns:List Nd) (b:Bool):D:=.fn (.func 141) [] [.ptr 9 0,.iptr [i64 (base:Int)],.ptr 8 0,.ptr 7 0,iP ns b]
abbrev msH (n e:Nat) (b:Bool) (base:Nat) (ss nxt:List (List Nat)) (hits:List Bool) (roots:List Nat):List (Nat×Box):=
 (7,.cells [.ptr 0 0] true)::(8,.cells [.sl 11 0 ss.length ss.length 1 false] true)::(9,.cells [.map 10] true)::(10,.map (pos (bw ss) base))::(11,.cells (ss.flatMap nsC) false)::(0,.cells (mcC n e b (aP 4 1 nxt) (.sl 5 0 hits.length hits.length 1 false) (aP 6 1 roots)) true)::(5,.cells (hits.flatMap blC) false)::(6,.cells (roots.flatMap nkC) false)::bK 4 ntC nxt
structure MSt where
 f:Nat
 i:Nat
 ss:List (List Nat)
 nxt:List (List Nat)
 hits:List Bool
structure RSt where
 c:Nat
 ss:List (List Nat)
 hits:List Bool
 row:List Nat
set_option maxHeartbeats 8000000 in
theorem I0 {n e F base:Nat}{b:Bool}{ns:List Nd}{nx':List (List Nat)}{hi':List Bool}{roots:List Nat}{Q:Exit->St->Prop}(hF:F<=10000) (hn:n<=1000) (hb:base<=10000) (hok:uy ns=true)
  (hQ:∀ tm ss,Q (.exit 0) ⟨tm,⟨16,msH n e b base ss nx' hi' roots⟩⟩) (a:MSt) (ha:oT ns F n e base a.f a.i a.ss a.nxt a.hits=some (nx',hi')/\a.ss≠[]/\a.ss.length<=1001/\(∀ s∈a.ss,okS ns s=true)/\a.i<=a.ss.length/\a.hits.length=base+a.ss.length/\a.nxt.length=base+a.i) :
  aG Tryz.prog 4 (loopN Tryz.f110 0) Q ⟨tmp 83 [(2,.ptr 7 0),(4,iP ns b),(7,.ptr 8 0),(8,clF base ns b),(10,i64 (a.i:Int))],⟨12,msH n e b base a.ss a.nxt a.hits roots⟩⟩:=by
 refine aG.by aB T0 (λa:MSt=>⟨tmp 83 [(2,.ptr 7 0),(4,iP ns b),(7,.ptr 8 0),(8,clF base ns b),(10,i64 (a.i:Int))],⟨12,msH n e b base a.ss a.nxt a.hits roots⟩⟩)
  (λa=>oT ns F n e base a.f a.i a.ss a.nxt a.hits=some (nx',hi')/\a.ss≠[]/\a.ss.length<=1001/\(∀ s∈a.ss,okS ns s=true)/\a.i<=a.ss.length/\a.hits.length=base+a.ss.length/\a.nxt.length=base+a.i) (λa=>a.f) a ha (Lf.refl _) ?_
 clear ha a;intro⟨f,i,ss,nxt,hits⟩ ⟨h1,hne,hss,hsl,hi,hhl,hnl⟩;dsimp only at h1 hne hss hsl hi hhl hnl ⊢;cases f with
 | zero=>simp[oT] at h1
 | succ f=>
 by_cases hlt:i<ss.length
 .have hcur:ss[i]?=some ss[i]:=List.getElem?_eq_getElem hlt;have hoc:okS ns ss[i]=true:=hsl _ (kM hlt);generalize hgc:ss[i]=cur at hcur hoc;simp only[oT,hcur] at h1;clear hgc;cases hrow:r9 ns F e base cur n 0 ss hits [] with
  | none=>simp[hrow] at h1
  | some p=>
  obtain⟨row',ss',hits'⟩:=p;simp only[hrow] at h1;cases nxt with
  | nil=>
   repeat' ((conv=>whnf);first|exact kQ|(refine bk ?_ ?_<;>intro _<;>try exact exo)|refine stq ?_|fail)
   refine aG.by aB T0 (λa:RSt=>⟨tmp 83 [(2,.ptr 7 0),(4,iP ns b),(7,.ptr 8 0),(8,clF base ns b),(10,i64 (i:Int)),(11,.sl 12 0 n n 1 true),(57,i64 n),(58,i64 (a.c:Int))],⟨13,(12,j6 n a.row)::msH n e b base a.ss ([]:List (List Nat)) a.hits roots⟩⟩)
    (λa=>r9 ns F e base cur (n-a.c) a.c a.ss a.hits a.row=some (row',ss',hits')/\a.c<=n/\a.row.length=a.c/\a.ss≠[]/\a.ss.length<=1001/\(∀ s∈a.ss,okS ns s=true)/\a.ss[i]?=some cur/\a.hits.length=base+a.ss.length) (λa=>n-a.c) ⟨0,ss,hits,[]⟩ ⟨hrow,by dsimp only;omega,rfl,hne,hss,hsl,hcur,hhl⟩ ?_ ?_
   .exact lq [(5,_),(6,_),(7,_),(8,_),(9,_),(10,_),(11,_),(12,_)] []
   clear hrow hss hsl hcur hne hhl;intro⟨c,ss,hits,row⟩ ⟨hrow,hcn,hrl,hne,hss,hsl,hcur,hhl⟩;dsimp only at hrow hcn hrl hne hss hsl hcur hhl ⊢;have hgi:(ss.flatMap nsC)[i]?=some (dG cur):=by rw[aN];simp[hcur]
   have hil:i<ss.length:=(List.getElem?_eq_some_iff.1 hcur).1;by_cases hc:c<n
   .rw[show n-c=(n-(c+1))+1 from om] at hrow;simp only[r9] at hrow;cases hst:stp ns F cur (c:Int) with
    | none=>simp[hst] at hrow
    | some s=>
    simp only[hst] at hrow;have hstep:=Dq (b:=b) om hok hoc hst;split at hrow
    .rename_i hos;have h1:=ge hos;by_cases hk:eV s∈bw ss
     .rw[if_pos hk] at hrow;repeat' ((conv=>whnf);first|exact kQ|(refine bk ?_ ?_<;>intro _<;>try exact exo)|refine stq ?_|refine b7.at i om om ?_|refine Get.one hgi ?_|refine cp hstep ?_|refine Cll.embF (Au (base:=base) (b:=b) (ns:=ns) om h1.2.1 hk) [(0,9),(1,10),(2,8),(4,7)] [] (i64 ((base+(bw ss).idxOf (eV s):Nat):Int)) [(9,.cells [.map 10] true),(10,.map (pos (bw ss) base))] [(7,.cells [.ptr 0 0] true),(8,.cells [.sl 11 0 ss.length ss.length 1 false] true),(11,.cells (ss.flatMap nsC) false),(0,.cells (mcC n e b (aP 4 1 ([]:List (List Nat))) (.sl 5 0 hits.length hits.length 1 false) (aP 6 1 roots)) true),(5,.cells (hits.flatMap blC) false),(6,.cells (roots.flatMap nkC) false),(12,j6 n row)] rfl cO bxA rdA bxA reF ?_|refine Put.one (by simp;omega) ?_|fail)
      all_goals(conv=>whnf)
      refine⟨⟨c+1,ss,hits,row++[base+(bw ss).idxOf (eV s)]⟩,⟨hrow,by dsimp only;omega,by simp[hrl],hne,hss,hsl,hcur,hhl⟩,by dsimp only;omega,?_⟩;exact lq [(5,_),(6,_),(7,_),(8,_),(9,_),(10,_),(11,_),(12,_)] []
     .rw[if_neg hk] at hrow;cases hst2:stp ns F s (e:Int) with
      | none=>simp[hst2] at hrow
      | some r=>
      simp only[hst2] at hrow;split at hrow
      .rename_i hor;have hh0:hits≠[]:=λh=>by rw[h] at hhl;simp at hhl;omega
       repeat' ((conv=>whnf);first|exact kQ|(refine bk ?_ ?_<;>intro _<;>try exact exo)|refine stq ?_|refine b7.at i om om ?_|refine Get.one hgi ?_|refine cp hstep ?_|refine Cll.embF (Iy (n:=n) (e:=e) (next:=([]:List (List Nat))) (roots:=roots) (b:=b) hne hh0 hok hos hor.1 hk hor.2 hb hhl om hst2) [(0,9),(1,10),(2,8),(3,11),(4,7),(5,0),(6,5),(7,4),(8,6)] [] (i64 ((base+ss.length:Nat):Int)) [(9,.cells [.map 10] true),(10,.map (pos (bw (ss++[s])) base)),(8,.cells [.sl 26 0 (ss++[s]).length (ss++[s]).length 1 false] true),(26,.cells ((ss++[s]).flatMap nsC) false),(7,.cells [.ptr 0 0] true),(0,.cells (mcC n e b (aP 4 1 ([]:List (List Nat))) (.sl 27 0 (hits++[decide (r=[0])]).length (hits++[decide (r=[0])]).length 1 false) (aP 6 1 roots)) true),(27,.cells ((hits++[decide (r=[0])]).flatMap blC) false)] [(6,.cells (roots.flatMap nkC) false),(12,j6 n row)] rfl cO bxA rdA bxA reF ?_|refine Put.one (by simp;omega) ?_|fail)
       all_goals(conv=>whnf)
       refine⟨⟨c+1,ss++[s],hits++[decide (r=[0])],row++[base+ss.length]⟩,⟨hrow,by dsimp only;omega,by simp[hrl],si,by simp;omega,λx hx=>?_,by dsimp only;rw[List.getElem?_append_left hil];exact hcur,by simp;omega⟩,by dsimp only;omega,?_⟩
       .rcases List.mem_append.1 hx with hx|hx
        .exact hsl x hx
        .simp at hx;subst hx;exact hos
       exact lq [(5,_),(6,_),(7,_),(8,_),(9,_),(10,_),(11,_),(12,_)] []
      .cases hrow
    .cases hrow
   .rw[show n-c=0 from om] at hrow;simp only[r9,kA,kB] at hrow;obtain⟨rfl,rfl,rfl⟩:=hrow;obtain rfl:c=n:=by omega
    repeat' ((conv=>whnf);first|exact kQ|(refine bk ?_ ?_<;>intro _<;>try exact exo)|refine stq ?_|refine ac.by (id:=17) aB T0 [0,0,2,6,14,0,32,126,255,511,1023] (by kernel_rfl) ?_|refine Chk.mk ⟨_,rfl⟩ ?_|fail)
    all_goals(conv=>whnf)
    refine⟨⟨f,i+1,ss,([]:List (List Nat))++[row],hits⟩,⟨h1,hne,hss,hsl,by dsimp only;omega,hhl,by simp at hnl ⊢;omega⟩,by dsimp only;omega,?_⟩;exact lq [(4,_),(5,_),(6,_),(7,_),(8,_),(9,_),(10,_),(11,_)] [12]
  | cons x xs=>
   have hx2:(x::xs).length=xs.length+1:=rfl;repeat' ((conv=>whnf);first|exact kQ|(refine bk ?_ ?_<;>intro _<;>try exact exo)|refine stq ?_|fail)
   refine aG.by aB T0 (λa:RSt=>⟨tmp 83 [(2,.ptr 7 0),(4,iP ns b),(7,.ptr 8 0),(8,clF base ns b),(10,i64 (i:Int)),(11,.sl 12 0 n n 1 true),(57,i64 n),(58,i64 (a.c:Int))],⟨13,(12,j6 n a.row)::msH n e b base a.ss (x::xs) a.hits roots⟩⟩)
    (λa=>r9 ns F e base cur (n-a.c) a.c a.ss a.hits a.row=some (row',ss',hits')/\a.c<=n/\a.row.length=a.c/\a.ss≠[]/\a.ss.length<=1001/\(∀ s∈a.ss,okS ns s=true)/\a.ss[i]?=some cur/\a.hits.length=base+a.ss.length) (λa=>n-a.c) ⟨0,ss,hits,[]⟩ ⟨hrow,by dsimp only;omega,rfl,hne,hss,hsl,hcur,hhl⟩ ?_ ?_
   .exact lq [(4,_),(5,_),(6,_),(7,_),(8,_),(9,_),(10,_),(11,_),(12,_)] []
   clear hrow hss hsl hcur hne hhl;intro⟨c,ss,hits,row⟩ ⟨hrow,hcn,hrl,hne,hss,hsl,hcur,hhl⟩;dsimp only at hrow hcn hrl hne hss hsl hcur hhl ⊢;have hgi:(ss.flatMap nsC)[i]?=some (dG cur):=by rw[aN];simp[hcur]
   have hil:i<ss.length:=(List.getElem?_eq_some_iff.1 hcur).1;by_cases hc:c<n
   .rw[show n-c=(n-(c+1))+1 from om] at hrow;simp only[r9] at hrow;cases hst:stp ns F cur (c:Int) with
    | none=>simp[hst] at hrow
    | some s=>
    simp only[hst] at hrow;have hstep:=Dq (b:=b) om hok hoc hst;split at hrow
    .rename_i hos;have h1:=ge hos;by_cases hk:eV s∈bw ss
     .rw[if_pos hk] at hrow;repeat' ((conv=>whnf);first|exact kQ|(refine bk ?_ ?_<;>intro _<;>try exact exo)|refine stq ?_|refine b7.at i om om ?_|refine Get.one hgi ?_|refine cp hstep ?_|refine Cll.embF (Au (base:=base) (b:=b) (ns:=ns) om h1.2.1 hk) [(0,9),(1,10),(2,8),(4,7)] [] (i64 ((base+(bw ss).idxOf (eV s):Nat):Int)) [(9,.cells [.map 10] true),(10,.map (pos (bw ss) base))] [(7,.cells [.ptr 0 0] true),(8,.cells [.sl 11 0 ss.length ss.length 1 false] true),(11,.cells (ss.flatMap nsC) false),(0,.cells (mcC n e b (aP 4 1 (x::xs)) (.sl 5 0 hits.length hits.length 1 false) (aP 6 1 roots)) true),(5,.cells (hits.flatMap blC) false),(6,.cells (roots.flatMap nkC) false),(12,j6 n row),(4,.cells ((x::xs).flatMap ntC) false)] rfl cO bxA rdA bxA reF ?_|refine Put.one (by simp;omega) ?_|fail)
      all_goals(conv=>whnf)
      refine⟨⟨c+1,ss,hits,row++[base+(bw ss).idxOf (eV s)]⟩,⟨hrow,by dsimp only;omega,by simp[hrl],hne,hss,hsl,hcur,hhl⟩,by dsimp only;omega,?_⟩;exact lq [(4,_),(5,_),(6,_),(7,_),(8,_),(9,_),(10,_),(11,_),(12,_)] []
     .rw[if_neg hk] at hrow;cases hst2:stp ns F s (e:Int) with
      | none=>simp[hst2] at hrow
      | some r=>
      simp only[hst2] at hrow;split at hrow
      .rename_i hor;have hh0:hits≠[]:=λh=>by rw[h] at hhl;simp at hhl;omega
       repeat' ((conv=>whnf);first|exact kQ|(refine bk ?_ ?_<;>intro _<;>try exact exo)|refine stq ?_|refine b7.at i om om ?_|refine Get.one hgi ?_|refine cp hstep ?_|refine Cll.embF (Iy (n:=n) (e:=e) (next:=(x::xs)) (roots:=roots) (b:=b) hne hh0 hok hos hor.1 hk hor.2 hb hhl om hst2) [(0,9),(1,10),(2,8),(3,11),(4,7),(5,0),(6,5),(7,4),(8,6)] [] (i64 ((base+ss.length:Nat):Int)) [(9,.cells [.map 10] true),(10,.map (pos (bw (ss++[s])) base)),(8,.cells [.sl 26 0 (ss++[s]).length (ss++[s]).length 1 false] true),(26,.cells ((ss++[s]).flatMap nsC) false),(7,.cells [.ptr 0 0] true),(0,.cells (mcC n e b (aP 4 1 (x::xs)) (.sl 27 0 (hits++[decide (r=[0])]).length (hits++[decide (r=[0])]).length 1 false) (aP 6 1 roots)) true),(27,.cells ((hits++[decide (r=[0])]).flatMap blC) false)] [(6,.cells (roots.flatMap nkC) false),(12,j6 n row),(4,.cells ((x::xs).flatMap ntC) false)] rfl cO bxA rdA bxA reF ?_|refine Put.one (by simp;omega) ?_|fail)
       all_goals(conv=>whnf)
       refine⟨⟨c+1,ss++[s],hits++[decide (r=[0])],row++[base+ss.length]⟩,⟨hrow,by dsimp only;omega,by simp[hrl],si,by simp;omega,λx hx=>?_,by dsimp only;rw[List.getElem?_append_left hil];exact hcur,by simp;omega⟩,by dsimp only;omega,?_⟩
       .rcases List.mem_append.1 hx with hx|hx
        .exact hsl x hx
        .simp at hx;subst hx;exact hos
       exact lq [(4,_),(5,_),(6,_),(7,_),(8,_),(9,_),(10,_),(11,_),(12,_)] []
      .cases hrow
    .cases hrow
   .rw[show n-c=0 from om] at hrow;simp only[r9,kA,kB] at hrow;obtain⟨rfl,rfl,rfl⟩:=hrow;obtain rfl:c=n:=by omega
    repeat' ((conv=>whnf);first|exact kQ|(refine bk ?_ ?_<;>intro _<;>try exact exo)|refine stq ?_|refine ac.by (id:=17) aB T0 [0,0,2,6,14,0,32,126,255,511,1023] (by kernel_rfl) ?_|refine Chk.mk ⟨_,rfl⟩ ?_|fail)
    all_goals(conv=>whnf)
    refine⟨⟨f,i+1,ss,(x::xs)++[row],hits⟩,⟨h1,hne,hss,hsl,by dsimp only;omega,hhl,by simp at hnl ⊢;omega⟩,by dsimp only;omega,?_⟩;exact lq [(4,_),(5,_),(6,_),(7,_),(8,_),(9,_),(10,_),(11,_)] [12]
 .have h2:ss[i]?=none:=List.getElem?_eq_none om;simp only[oT,h2,kA,kB] at h1;obtain⟨rfl,rfl⟩:=h1;cases nxt with
  | nil=>
   repeat' ((conv=>whnf);first|exact kQ|(refine bk ?_ ?_<;>intro _<;>try exact exo)|refine stq ?_|exact hQ _ _|fail)
  | cons x xs=>
   repeat' ((conv=>whnf);first|exact kQ|(refine bk ?_ ?_<;>intro _<;>try exact exo)|refine stq ?_|exact hQ _ _|fail)
end Go.Proofs.YtpgcjpcenaefpaaGreatDoor
