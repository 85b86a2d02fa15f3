/-
  Contracts of functions over data: the automaton of a machine.
-/
import Derived.Test.YtnjmcdmjmaopdaaGreatDoorC5
import Derived.Test.YtnjmcdmjmaopdaaGreatDoorAmF
set_option linter.unusedSectionVars false
namespace Go.Proofs.YtnjmcdmjmaopdaaGreatDoor
open Go Go.Am Classical
set_option maxRecDepth 100000
variable [GT]
abbrev bn (l:List (List Nat)):D:=lst dN l
theorem bg (l:List (List Nat)):aJ (bn l)=true:=gB bT l
abbrev ntC (r:List Nat):List D:=[dN r]
theorem ws (s:List Bool):aD (mu s)=true:=by simp[aD,aS]
theorem rj (s:List Nat):aD (ntC s)=true:=by simp[aD,bT]
def nxB (next:List (List Nat)) (cur:List Bool) (c:Nat):List Bool:=next.map fun r=>cur.getD (r.getD c 0) false
@[simp] theorem nxB_len {next:List (List Nat)} {cur:List Bool} {c:Nat}:(nxB next cur c).length=next.length:=by simp[nxB]
def jA (next:List (List Nat)) (cur:List Bool):Nat→Nat→List (List Bool)→List Nat→Option (List Nat×List (List Bool))
 | 0,_,ss,row=>some (row,ss)
 | k+1,c,ss,row=>
  if nxB next cur c∈ss then jA next cur k (c+1) ss (row++[ss.idxOf (nxB next cur c)])
  else if ss.length<400 then jA next cur k (c+1) (ss++[nxB next cur c]) (row++[ss.length]) else none
def gp (cur:List Bool):List Nat→Nat→List Nat
 | [],_=>[]
 | r::l,i=>if cur.getD r false then i::gp cur l (i+1) else gp cur l (i+1)
def jj (n:Nat) (next:List (List Nat)) (roots:List Nat):Nat→Nat→List (List Bool)→List (List Nat)→List (List Nat)→Option (List (List Nat)×List (List Nat))
 | 0,_,_,_,_=>none
 | f+1,i,ss,rows,marks=>
  match ss[i]? with
  | none=>some (rows,marks)
  | some cur=>
   match jA next cur n 0 ss [] with
   | none=>none
   | some (row,ss')=>jj n next roots f (i+1) ss' (rows++[row]) (marks++[gp cur roots 0])
theorem oF {cur:List Bool}:∀ (l m:List Nat) (i:Nat),gp cur (l++m) i=gp cur l i++gp cur m (i+l.length)
 | [],m,i=>by simp[gp]
 | r::l,m,i=>by
  simp only[List.cons_append,gp,kO,oF l m (i+1),show i+1+l.length=i+(l.length+1) from by omega];split<;>simp
theorem qA {cur:List Bool}:∀ (l:List Nat) (i:Nat),(gp cur l i).length≤l.length
 | [],i=>by simp[gp]
 | r::l,i=>by
  have:=qA (cur:=cur) l (i+1)
  simp only[gp];split<;>simp<;>omega
theorem CD {ss:List (List Bool)}{s:List Bool}:(kU ss).idxOf (ji s)=ss.idxOf s:=by
 induction ss with
 | nil=>rfl
 | cons t ts ih=>
  simp only[kU,List.map_cons,List.idxOf_cons] at ih ⊢;by_cases h:t=s
  ·subst h;simp
  ·have h2:¬ji t=ji s:=fun e=>h (qQ e)
   rw[beq_eq_false_iff_ne.2 h,beq_eq_false_iff_ne.2 h2];simp only[cond_false,ih]
abbrev auN (ss:List (List Bool)):List (Nat×Box):=[(0,.cells [.map 1] true),(1,.map (pos (kU ss) 0)),(2,.cells [.sl 3 0 ss.length ss.length 1 false] true),(3,.cells (ss.flatMap mu) false)]
theorem uk {ss:List (List Bool)}{s:List Bool}(hl:s.length≤1000000) (hs:s∈ss) :
  AC1 Tryz.prog 91 [bU s,.ptr 0 0,.ptr 2 0] ⟨4,auN ss⟩ (i64 (ss.idxOf s:Int)) ⟨20,auN ss⟩:=by
 have:=wo hl hs
 rw[CD] at this;cases ss with
 | nil=>simp at hs
 | cons t ts=>exact this
theorem ul {ss:List (List Bool)}{s:List Bool}(hl:s.length≤1000000) (h0:ss≠[]) (hs:¬s∈ss) (hn:ss.length≤1000000) :
  AC1 Tryz.prog 91 [bU s,.ptr 0 0,.ptr 2 0] ⟨4,auN ss⟩ (i64 (ss.length:Int)) ⟨32,auR ss s⟩:=by
 have:=rh hl hs hn
 cases ss with
 | nil=>simp at h0
 | cons t ts=>exact this
abbrev Bk (n e:Nat) (back:Bool) (next:List (List Nat)) (hits:List Bool) (roots:List Nat):List D:=[i64 n,i64 e,boo back,bn next,bU hits,dN roots]
abbrev auT (n e:Nat) (back:Bool) (next:List (List Nat)) (hits:List Bool) (roots:List Nat) (i:Nat) (tl:List (Nat×D)):List (Nat×D):=
 (0,.iptr (Bk n e back next hits roots))::(2,.ptr 0 0)::(5,.ptr 3 0)::(6,.fn (.func 91) [] [.ptr 1 0,.ptr 3 0])::(7,.ptr 5 0)::(8,i64 (i:Int))::tl
abbrev auH (ss:List (List Bool)) (rows marks:List (List Nat)):List (Nat×Box):=
 (0,.cells [aY,aY] true)::(1,.cells [.map 2] true)::(2,.map (pos (kU ss) 0))::(3,.cells [.sl 4 0 ss.length ss.length 1 false] true)::(4,.cells (ss.flatMap mu) false)::(5,.cells [ai 6 1 rows,ai 7 1 marks] true)::(cY 6 ntC rows++cY 7 ntC marks)
theorem aX (n e:Nat) (back:Bool) (next:List (List Nat)) (hits:List Bool) (roots:List Nat):aJ (.iptr (Bk n e back next hits roots))=true:=by simp[aJ,aD,bg,bT,aS]
theorem lx {d:D}(h:aJ d=true):aD [d]=true:=by simp[aD,h]
structure ASt where
 f:Nat
 i:Nat
 ss:List (List Bool)
 rows:List (List Nat)
 marks:List (List Nat)
abbrev jv (n:Nat) (row:List Nat):Box:=.cells (ao n fun j=>i64 ((row.getD j 0:Nat):Int)) true
abbrev Dk (N k:Nat) (s:List Bool):Box:=.cells (ao N fun j=>boo (decide (j<k)&&s.getD j false)) true
theorem CJ {l:List Nat}{x j:Nat}(h:j≠l.length):(l++[x]).getD j 0=l.getD j 0:=by
 rcases(by omega:j<l.length∨l.length<j) with h1|h1
 ·rw[aW (by simp;omega),aW h1,List.getElem_append_left h1]
 ·simp only[List.getD];rw[List.getElem?_eq_none (by simp;omega),List.getElem?_eq_none (by omega)]
theorem CI {l:List Nat}{x j:Nat}(h:j=l.length):(l++[x]).getD j 0=x:=by
 subst h;simp[List.getD]
theorem yM {next:List (List Nat)}{cur:List Bool}{c k:Nat}(h1:k<next.length) (h2:c<next[k].length) (h3:next[k][c]<cur.length):(nxB next cur c).getD k false=cur[next[k][c]]:=by
 rw[aW (by simpa using h1)];simp only[nxB,List.getElem_map];rw[aW h2,aW h3]
theorem gv {n c x:Nat}{row:List Nat}(h:row.length=c):(ao n fun j=>i64 ((row.getD j 0:Nat):Int)).set c (i64 (x:Int))=ao n fun j=>i64 (((row++[x]).getD j 0:Nat):Int):=
 bq (by rw[CI h.symm]) (fun j _ hj=>by rw[CJ (by omega)])
section
variable {h:aC}{fz:Nat→Bool}{σ:Nat→Option Nat}
theorem gL {l:List (List Nat)}{r:List Nat}{d:D}(hd:Rd h fz σ d (dN r)):Rds h fz σ (((l.flatMap ntC).drop 0).take (l.length*1)++[d]) ((l++[r]).flatMap ntC):=by
 rw[List.flatMap_append];refine Rds.app (.eqs ?_ (aE rj _)) (.cons hd .nil);rw[List.drop_zero,kE (by rw[aq (sz:=1) (fun _=>rfl)];exact kP _)]
theorem lF {id n:Nat}{row:List Nat}{ex:Bool}(hf:fz id=true) (hg:h.get id=some (jv n row)) (hl:row.length=n):Rd h fz σ (.sl id 0 n n 1 ex) (dN row):=by
 subst hl;refine .frz hf hg (by simp) (.eqs ?_ (aa (fun _=>rfl) _));rw[List.drop_zero,kE (by simp)];exact c8 fun i hi=>by rw[aW hi]
theorem mg {id:Nat}{l:List Nat}{ex bx:Bool}(hf:fz id=true) (hg:h.get id=some (.cells (l.flatMap fun k=>[ca k]) bx)):Rd h fz σ (.sl id 0 l.length l.length 1 ex) (dN l):=by
 refine .frz hf hg (by rw[ad];simp) (.eqs ?_ (aa (fun _=>rfl) _));rw[List.drop_zero,kE (by rw[ad];simp),ad]
theorem qM {id:Nat}{l:List (List Nat)}{ex bx:Bool}(hf:fz id=true) (hg:h.get id=some (.cells (l.flatMap ntC) bx)):Rd h fz σ (.sl id 0 l.length l.length 1 ex) (bn l):=by
 refine .frz hf hg (by rw[ad];simp) (.eqs ?_ (aa bT _));rw[List.drop_zero,kE (by rw[ad];simp),ad]
end
theorem rm {cur:List Bool}{roots:List Nat}{k:Nat}(h:k<roots.length) (h2:roots[k]<cur.length):gp cur (roots.take (k+1)) 0=gp cur (roots.take k) 0++(if cur[roots[k]] then [k] else []):=by
 rw[bk h,oF,List.length_take,Nat.min_eq_left (by omega)];simp only[gp,aW h2,Nat.zero_add]
set_option maxHeartbeats 4000000 in
theorem aut_c {n e:Nat}{back:Bool}{next:List (List Nat)}{hits:List Bool}{roots:List Nat}{R M:List (List Nat)}{F:Nat}(hn:n≤1000) (hx:next.length≤100000) (hh:hits.length=next.length) (hro:roots.length≤100000)
  (hr:∀ r∈next,r.length=n∧∀ x∈r,x<next.length) (hrt:∀ x∈roots,x<next.length) (h:jj n next roots F 0 [hits] [] []=some (R,M)) :
  Pu Tryz.prog 57 [.iptr (Bk n e back next hits roots)] (.tup [.agg [bn R,bn M],boo true]):=by
 refine Pu.of_v aA T0 Tryz.func57 rfl rfl (by simp[aJ,aD,bg,bT,aS]) ?_
 repeat' ((conv=>whnf)<;>(first|refine aB.go aA T0 ?_|exact kQ|(refine Br.mk (fun _=>?_) (fun _=>?_)<;>(try(exfalso;omega)))|refine stq ?_|refine Cll.emb (rh (ss:=[]) (s:=hits) (by omega) (by simp) (by simp)) [(0,3),(1,2),(2,5)] [] (i64 (0:Int)) [(3,.cells [.map 2] true),(2,.map (pos (kU [hits]) 0)),(5,.cells [.sl 38 0 1 1 1 false] true),(38,.cells [bU hits] false)] [(0,.cells [aY,aY] true)] rfl (by(repeat(first|exact Rds.nil|refine Rds.cons (by first|exact Rd.same (aS _)|exact rdA|fail) ?_|fail));(first|done|fail)) (by(repeat(first|exact Bxs.nil|refine Bxs.cons rfl rfl rfl (by first|exact Rb.map (Res.same (ab _ _))|exact Rb.cells (Rds.same (lx (aS _))) rfl|exact rbB|exact Rb.cells (by(repeat(first|exact Rds.nil|refine Rds.cons (by first|exact Rd.same (aS _)|exact rdA|fail) ?_|fail));(first|done|fail)) rfl|exact rbC|fail) ?_|fail));(first|done|fail)) (by first|exact Rd.same (aS _)|exact rdA|fail) (by(repeat(first|exact Bxs.nil|refine Bxs.cons rfl rfl rfl (by first|exact Rb.map (Res.same (ab _ _))|exact Rb.cells (Rds.same (lx (aS _))) rfl|exact rbB|exact Rb.cells (by(repeat(first|exact Rds.nil|refine Rds.cons (by first|exact Rd.same (aS _)|exact rdA|fail) ?_|fail));(first|done|fail)) rfl|exact rbC|fail) ?_|fail));(first|done|fail)) (by(repeat(first|exact ap.nil|refine ap.cons rfl rfl rfl ?_|fail));(first|done|fail)) ?_|fail))
 refine aU.by aA T0 (fun a:ASt=>⟨tmp 119 (auT n e back next hits roots a.i []),⟨8,auH a.ss a.rows a.marks⟩⟩)
  (fun a=>jj n next roots a.f a.i a.ss a.rows a.marks=some (R,M)∧a.ss≠[]∧a.ss.length≤400∧(∀ s∈a.ss,s.length=next.length)∧a.i≤a.ss.length∧a.rows.length=a.i∧a.marks.length=a.i) (fun a=>a.f) ⟨F,0,[hits],[],[]⟩ ⟨h,by simp,by simp,by simp[hh],by simp,rfl,rfl⟩ ?_ ?_
 ·exact Lf.of2 [(0,_),(1,_),(2,_),(3,_),(4,_),(5,_)] [] (by repeat(first|exact aI.nil|refine aI.cons rfl (by first|exact Rd.same (aX _ _ _ _ _ _)|exact Rd.fn Rds.nil (Rds.cons (Rd.ptr rfl) (Rds.cons (Rd.ptr rfl) Rds.nil))|exact rdA|fail) ?_)) (by repeat(first|exact Bxs.nil|refine Bxs.cons rfl rfl rfl (by first|exact Rb.cells (Rds.same (lx (aS _))) rfl|exact rbB|exact Rb.cells (by(repeat(first|exact Rds.nil|refine Rds.cons (by first|exact Rd.same (aX _ _ _ _ _ _)|exact Rd.fn Rds.nil (Rds.cons (Rd.ptr rfl) (Rds.cons (Rd.ptr rfl) Rds.nil))|exact rdA|fail) ?_|fail));(first|done|fail)) rfl|exact rbC|fail) ?_)) rfl rfl
 clear h;intro⟨f,i,ss,rows,marks⟩ ⟨h1,hne,hss,hsl,hi,hrw,hmk⟩;dsimp only at h1 hne hss hsl hi hrw hmk ⊢;cases f with
 | zero=>simp[jj] at h1
 | succ f=>
 by_cases hlt:i<ss.length
 ·have hcur:ss[i]?=some ss[i]:=List.getElem?_eq_getElem hlt;generalize hgc:ss[i]=cur at hcur;simp only[jj,hcur] at h1;have hcl:cur.length=next.length:=by rw[←hgc];exact hsl _ (kM hlt)
  clear hgc;cases hrow:jA next cur n 0 ss [] with
  | none=>simp[hrow] at h1
  | some p=>
  obtain⟨row',ss'⟩:=p;simp only[hrow] at h1;cases rows with
  | nil=>
   obtain rfl:marks=[]:=List.eq_nil_of_length_eq_zero (l:=marks) (by simp at hrw;omega);repeat' ((conv=>whnf)<;>(first|refine aB.go aA T0 ?_|exact kQ|(refine Br.mk (fun _=>?_) (fun _=>?_)<;>(try(exfalso;omega)))|refine stq ?_|fail))
   refine aU.by3 aA T0 (fun(c:Nat) (ss:List (List Bool)) (row:List Nat)=>⟨tmp 119 (auT n e back next hits roots i [(9,.sl 8 0 n n 1 true),(39,i64 n),(40,i64 (c:Int))]),⟨9,(8,jv n row)::auH ss [] []⟩⟩)
    (fun c ss row=>jA next cur (n-c) c ss row=some (row',ss')∧c≤n∧row.length=c∧ss≠[]∧ss.length≤400∧(∀ s∈ss,s.length=next.length)∧ss[i]?=some cur) (fun c _ _=>n-c) 0 ss [] ⟨hrow,by omega,rfl,hne,hss,hsl,hcur⟩ ?_ ?_
   ·exact Lf.of2 [(0,_),(1,_),(2,_),(3,_),(4,_),(5,_),(8,_)] [] (by repeat(first|exact aI.nil|refine aI.cons rfl (by first|exact Rd.same (aX _ _ _ _ _ _)|exact Rd.fn Rds.nil (Rds.cons (Rd.ptr rfl) (Rds.cons (Rd.ptr rfl) Rds.nil))|exact rdA|fail) ?_)) (by repeat(first|exact Bxs.nil|refine Bxs.cons rfl rfl rfl (by first|exact Rb.cells (Rds.eqs (bF (by omega) (fun i _=>by simp)) (aV (fun _=>rfl))) rfl|exact rbB|exact Rb.cells (by(repeat(first|exact Rds.nil|refine Rds.cons (by first|exact Rd.same (aX _ _ _ _ _ _)|exact Rd.fn Rds.nil (Rds.cons (Rd.ptr rfl) (Rds.cons (Rd.ptr rfl) Rds.nil))|exact rdA|fail) ?_|fail));(first|done|fail)) rfl|exact rbC|fail) ?_)) rfl rfl
   clear hrow hss hsl hcur hne hi hlt;intro c ss row ⟨hrow,hcn,hrl,hne,hss,hsl,hcur⟩;have hgi:(ss.flatMap mu)[i]?=some (bU cur):=by rw[ad];simp[hcur]
   have hil:i<ss.length:=(List.getElem?_eq_some_iff.1 hcur).1;by_cases hc:c<n
   ·repeat' ((conv=>whnf)<;>(first|refine aB.go aA T0 ?_|exact kQ|(refine Br.mk (fun _=>?_) (fun _=>?_)<;>(try(exfalso;omega)))|refine stq ?_|fail))
    refine aU.by aA T0 (fun k:Nat=>⟨tmp 119 (auT n e back next hits roots i [(9,.sl 8 0 n n 1 true),(10,i64 (c:Int)),(11,.sl 9 0 next.length next.length 1 true),(39,i64 n),(40,i64 (c:Int)),(52,bn next),(53,i64 next.length),(54,i64 (k:Int))]),⟨10,(9,Dk next.length k (nxB next cur c))::(8,jv n row)::auH ss [] []⟩⟩)
     (fun k=>k≤next.length) (fun k=>next.length-k) 0 (by omega) ?_ ?_
    ·exact Lf.of2 [(0,_),(1,_),(2,_),(3,_),(4,_),(5,_),(8,_),(9,_)] [] (by repeat(first|exact aI.nil|refine aI.cons rfl (by first|exact Rd.same (aX _ _ _ _ _ _)|exact Rd.fn Rds.nil (Rds.cons (Rd.ptr rfl) (Rds.cons (Rd.ptr rfl) Rds.nil))|exact rdA|fail) ?_)) (by repeat(first|exact Bxs.nil|refine Bxs.cons rfl rfl rfl (by first|exact Rb.cells (Rds.eqs (bF (by omega) (fun i _=>by simp)) (aV (fun _=>rfl))) rfl|exact Rb.cells (Rds.same (aV (fun _=>rfl))) rfl|exact rbB|exact Rb.cells (by(repeat(first|exact Rds.nil|refine Rds.cons (by first|exact Rd.same (aX _ _ _ _ _ _)|exact Rd.fn Rds.nil (Rds.cons (Rd.ptr rfl) (Rds.cons (Rd.ptr rfl) Rds.nil))|exact rdA|fail) ?_|fail));(first|done|fail)) rfl|exact rbC|fail) ?_)) rfl rfl
    intro k hk;by_cases hk2:k<next.length
    ·have hrk:=hr _ (kM hk2);have hck:c<next[k].length:=by omega
     have hx2:next[k][c]<cur.length:=by rw[hcl];exact hrk.2 _ (kM hck)
     have hg:=yM hk2 hck hx2;repeat' ((conv=>whnf)<;>(first|refine aB.go aA T0 ?_|exact kQ|(refine Br.mk (fun _=>?_) (fun _=>?_)<;>(try(exfalso;omega)))|refine stq ?_|refine bK.by (id:=17) aA T0 [0,0,0,0,12,28,0,0,192,448,1020,2044,4095,8191] (by kernel_rfl) ?_|refine Get.one hgi ?_|refine Put.one (by simp;omega) ?_|fail))
     all_goals(conv=>whnf)
     refine⟨k+1,by omega,by omega,?_⟩;exact Lf.of2 [(0,_),(1,_),(2,_),(3,_),(4,_),(5,_),(8,_),(9,_)] [] (by repeat(first|exact aI.nil|refine aI.cons rfl (by first|exact Rd.same (aX _ _ _ _ _ _)|exact Rd.fn Rds.nil (Rds.cons (Rd.ptr rfl) (Rds.cons (Rd.ptr rfl) Rds.nil))|exact rdA|fail) ?_)) (by repeat(first|exact Bxs.nil|refine Bxs.cons rfl rfl rfl (by first|exact Rb.cells (Rds.eqs (bq (by rw[hg];simp) (fun i _ hi=>by simp only[show(decide (i<k+1))=(decide (i<k)) from by rw[decide_eq_decide];omega])) (aV (fun _=>rfl))) rfl|exact Rb.cells (Rds.same (aV (fun _=>rfl))) rfl|exact rbB|exact Rb.cells (by(repeat(first|exact Rds.nil|refine Rds.cons (by first|exact Rd.same (aX _ _ _ _ _ _)|exact Rd.fn Rds.nil (Rds.cons (Rd.ptr rfl) (Rds.cons (Rd.ptr rfl) Rds.nil))|exact rdA|fail) ?_|fail));(first|done|fail)) rfl|exact rbC|fail) ?_)) rfl rfl
    ·have hfin:(ao next.length fun j=>boo (decide (j<k)&&(nxB next cur c).getD j false))=(nxB next cur c).map boo:=by
      have e:next.length=(nxB next cur c).length:=by simp
      rw[e];exact c8 fun j hj=>by rw[aW hj,decide_eq_true (by simp at hj;omega),Bool.true_and]
     have hfz:∀ {fz:Nat→Bool} {σ:Nat→Option Nat} {h:aC},fz 9=true→h.get 9=some (Dk next.length k (nxB next cur c))→Rd h fz σ (.sl 9 0 next.length next.length 1 true) (bU (nxB next cur c)):=fun h1 h2=>by
      have e:(nxB next cur c).length=next.length:=by simp
      unfold bU lst;rw[e];exact .frz h1 h2 (by simp) (.eqs (by rw[hfin,List.drop_zero,kE (by simp)]) (aa (fun _=>rfl) _))
     have hnc:n-c=(n-(c+1))+1:=by omega
     rw[hnc] at hrow;by_cases hs:nxB next cur c∈ss
     ·simp only[jA,hs,if_true] at hrow;repeat' ((conv=>whnf)<;>(first|refine aB.go aA T0 ?_|exact kQ|(refine Br.mk (fun _=>?_) (fun _=>?_)<;>(try(exfalso;omega)))|refine stq ?_|refine Cll.emb (uk (s:=nxB next cur c) (by simp;omega) hs) [(0,1),(1,2),(2,3),(3,4)] [9] (i64 (ss.idxOf (nxB next cur c):Int)) [(1,.cells [.map 2] true),(2,.map (pos (kU ss) 0)),(3,.cells [.sl 4 0 ss.length ss.length 1 false] true),(4,.cells (ss.flatMap mu) false)] [(0,.cells [aY,aY] true),(8,jv n row),(5,.cells [ai 6 1 [],ai 7 1 []] true)] rfl (by(repeat(first|exact Rds.nil|refine Rds.cons (by first|exact hfz rfl rfl|exact rdA|fail) ?_|fail));(first|done|fail)) (by(repeat(first|exact Bxs.nil|refine Bxs.cons rfl rfl rfl (by first|exact Rb.map (Res.same (ab _ _))|exact rbB|exact Rb.cells (by(repeat(first|exact Rds.nil|refine Rds.cons (by first|exact hfz rfl rfl|exact rdA|fail) ?_|fail));(first|done|fail)) rfl|exact rbC|fail) ?_|fail));(first|done|fail)) (by first|exact hfz rfl rfl|exact rdA|fail) (by(repeat(first|exact Bxs.nil|refine Bxs.cons rfl rfl rfl (by first|exact Rb.map (Res.same (ab _ _))|exact rbB|exact Rb.cells (by(repeat(first|exact Rds.nil|refine Rds.cons (by first|exact hfz rfl rfl|exact rdA|fail) ?_|fail));(first|done|fail)) rfl|exact rbC|fail) ?_|fail));(first|done|fail)) (by(repeat(first|exact ap.nil|refine ap.cons rfl rfl rfl ?_|fail));(first|done|fail)) ?_|refine Put.one (by simp;omega) ?_|fail))
      all_goals(conv=>whnf)
      refine⟨c+1,ss,row++[ss.idxOf (nxB next cur c)],⟨hrow,by omega,by simp[hrl],hne,hss,hsl,hcur⟩,by omega,?_⟩;exact Lf.of2 [(0,_),(1,_),(2,_),(3,_),(4,_),(5,_),(8,_)] [] (by repeat(first|exact aI.nil|refine aI.cons rfl (by first|exact Rd.same (aX _ _ _ _ _ _)|exact Rd.fn Rds.nil (Rds.cons (Rd.ptr rfl) (Rds.cons (Rd.ptr rfl) Rds.nil))|exact rdA|fail) ?_)) (by repeat(first|exact Bxs.nil|refine Bxs.cons rfl rfl rfl (by first|exact Rb.cells (Rds.eqs (gv hrl) (aV (fun _=>rfl))) rfl|exact rbB|exact Rb.cells (by(repeat(first|exact Rds.nil|refine Rds.cons (by first|exact Rd.same (aX _ _ _ _ _ _)|exact Rd.fn Rds.nil (Rds.cons (Rd.ptr rfl) (Rds.cons (Rd.ptr rfl) Rds.nil))|exact rdA|fail) ?_|fail));(first|done|fail)) rfl|exact rbC|fail) ?_)) rfl rfl
     ·by_cases hs4:ss.length<400
      ·simp only[jA,hs,if_false,hs4,if_true] at hrow;have hsl2:(ss++[nxB next cur c]).length=ss.length+1:=by simp
       repeat' ((conv=>whnf)<;>(first|refine aB.go aA T0 ?_|exact kQ|(refine Br.mk (fun _=>?_) (fun _=>?_)<;>(try(exfalso;omega)))|refine stq ?_|refine Cll.emb (ul (s:=nxB next cur c) (by simp;omega) hne hs (by omega)) [(0,1),(1,2),(2,3),(3,4)] [9] (i64 (ss.length:Int)) [(1,.cells [.map 2] true),(2,.map (pos (kU (ss++[nxB next cur c])) 0)),(3,.cells [.sl 40 0 (ss++[nxB next cur c]).length (ss++[nxB next cur c]).length 1 false] true),(40,.cells ((ss++[nxB next cur c]).flatMap mu) false)] [(0,.cells [aY,aY] true),(8,jv n row),(5,.cells [ai 6 1 [],ai 7 1 []] true)] rfl (by(repeat(first|exact Rds.nil|refine Rds.cons (by first|exact hfz rfl rfl|exact rdA|fail) ?_|fail));(first|done|fail)) (by(repeat(first|exact Bxs.nil|refine Bxs.cons rfl rfl rfl (by first|exact Rb.map (Res.same (ab _ _))|exact rbB|exact Rb.cells (by(repeat(first|exact Rds.nil|refine Rds.cons (by first|exact hfz rfl rfl|exact rdA|fail) ?_|fail));(first|done|fail)) rfl|exact rbC|fail) ?_|fail));(first|done|fail)) (by first|exact hfz rfl rfl|exact rdA|fail) (by(repeat(first|exact Bxs.nil|refine Bxs.cons rfl rfl rfl (by first|exact Rb.map (Res.same (ab _ _))|exact rbB|exact Rb.cells (by(repeat(first|exact Rds.nil|refine Rds.cons (by first|exact hfz rfl rfl|exact rdA|fail) ?_|fail));(first|done|fail)) rfl|exact rbC|fail) ?_|fail));(first|done|fail)) (by(repeat(first|exact ap.nil|refine ap.cons rfl rfl rfl ?_|fail));(first|done|fail)) ?_|refine Put.one (by simp;omega) ?_|fail))
       all_goals(conv=>whnf)
       refine⟨c+1,ss++[nxB next cur c],row++[ss.length],⟨hrow,by omega,by simp[hrl],by simp,by simp;omega,fun s hs=>?_,by rw[List.getElem?_append_left hil];exact hcur⟩,by omega,?_⟩
       ·rcases List.mem_append.1 hs with hs|hs
        ·exact hsl s hs
        ·simp at hs;subst hs;simp
       exact Lf.of2 [(0,_),(1,_),(2,_),(3,_),(4,_),(5,_),(8,_)] [] (by repeat(first|exact aI.nil|refine aI.cons rfl (by first|exact Rd.same (aX _ _ _ _ _ _)|exact Rd.fn Rds.nil (Rds.cons (Rd.ptr rfl) (Rds.cons (Rd.ptr rfl) Rds.nil))|exact rdA|fail) ?_)) (by repeat(first|exact Bxs.nil|refine Bxs.cons rfl rfl rfl (by first|exact Rb.cells (Rds.eqs (gv hrl) (aV (fun _=>rfl))) rfl|exact rbB|exact Rb.cells (by(repeat(first|exact Rds.nil|refine Rds.cons (by first|exact Rd.same (aX _ _ _ _ _ _)|exact Rd.fn Rds.nil (Rds.cons (Rd.ptr rfl) (Rds.cons (Rd.ptr rfl) Rds.nil))|exact rdA|fail) ?_|fail));(first|done|fail)) rfl|exact rbC|fail) ?_)) rfl rfl
      ·simp only[jA,hs,if_false,hs4] at hrow;cases hrow
   ·rw[show n-c=0 from by omega] at hrow;simp only[jA,kA,kB] at hrow;obtain⟨rfl,rfl⟩:=hrow;obtain rfl:c=n:=by omega
    repeat' ((conv=>whnf)<;>(first|refine aB.go aA T0 ?_|exact kQ|(refine Br.mk (fun _=>?_) (fun _=>?_)<;>(try(exfalso;omega)))|refine stq ?_|fail))
    refine aU.by2 aA T0 (fun(k:Nat) (mk:List Nat)=>⟨tmp 119 (auT c e back next hits roots i [(9,.sl 8 0 c c 1 true),(14,ai 9 1 mk),(87,dN roots),(88,i64 roots.length),(89,i64 (k:Int))]),⟨10,cY 9 (fun k=>[ca k]) mk++((8,jv c row)::auH ss [] [])⟩⟩)
     (fun k mk=>k≤roots.length∧mk=gp cur (roots.take k) 0) (fun k _=>roots.length-k) 0 [] ⟨by omega,by simp[gp]⟩ ?_ ?_
    ·exact Lf.of2 [(0,_),(1,_),(2,_),(3,_),(4,_),(5,_),(8,_)] [] (by repeat(first|exact aI.nil|refine aI.cons rfl (by first|exact Rd.same (aX _ _ _ _ _ _)|exact Rd.fn Rds.nil (Rds.cons (Rd.ptr rfl) (Rds.cons (Rd.ptr rfl) Rds.nil))|exact rdA|fail) ?_)) (by repeat(first|exact Bxs.nil|refine Bxs.cons rfl rfl rfl (by first|exact Rb.cells (Rds.same (aV (fun _=>rfl))) rfl|exact rbB|exact Rb.cells (by(repeat(first|exact Rds.nil|refine Rds.cons (by first|exact Rd.same (aX _ _ _ _ _ _)|exact Rd.fn Rds.nil (Rds.cons (Rd.ptr rfl) (Rds.cons (Rd.ptr rfl) Rds.nil))|exact rdA|fail) ?_|fail));(first|done|fail)) rfl|exact rbC|fail) ?_)) rfl rfl
    intro k mk ⟨hk,hmk1⟩;have hmkl:mk.length≤roots.length:=by rw[hmk1];exact Nat.le_trans (qA _ _) (by simp;omega)
    by_cases hk2:k<roots.length
    ·have hrk:=hrt _ (kM hk2);rw[←hcl] at hrk;have hsu:=rm hk2 hrk;rw[←hmk1] at hsu;cases hb:cur[roots[k]] with
     | true=>
      rw[hb] at hsu;cases mk with
      | nil=>
       repeat' ((conv=>whnf)<;>(first|refine Idx.atE (d:=boo true) roots[k] rfl hrk (by rw[hb]) ?_|refine aB.go aA T0 ?_|exact kQ|(refine Br.mk (fun _=>?_) (fun _=>?_)<;>(try(exfalso;omega)))|refine stq ?_|refine Get.one hgi ?_|fail))
       all_goals(conv=>whnf)
       refine⟨k+1,[k],⟨by omega,by rw[hsu];rfl⟩,by omega,?_⟩;exact Lf.of2 [(0,_),(1,_),(2,_),(3,_),(4,_),(5,_),(8,_),(9,_)] [] (by repeat(first|exact aI.nil|refine aI.cons rfl (by first|exact Rd.same (aX _ _ _ _ _ _)|exact Rd.fn Rds.nil (Rds.cons (Rd.ptr rfl) (Rds.cons (Rd.ptr rfl) Rds.nil))|exact rdA|fail) ?_)) (by repeat(first|exact Bxs.nil|refine Bxs.cons rfl rfl rfl (by first|exact Rb.cells (Rds.same (aV (fun _=>rfl))) rfl|exact rbB|exact Rb.cells (by(repeat(first|exact Rds.nil|refine Rds.cons (by first|exact Rd.same (aX _ _ _ _ _ _)|exact Rd.fn Rds.nil (Rds.cons (Rd.ptr rfl) (Rds.cons (Rd.ptr rfl) Rds.nil))|exact rdA|fail) ?_|fail));(first|done|fail)) rfl|exact rbC|fail) ?_)) rfl rfl
      | cons y ys=>
       have hy2:(y::ys).length=ys.length+1:=rfl;repeat' ((conv=>whnf)<;>(first|refine Idx.atE (d:=boo true) roots[k] rfl hrk (by rw[hb]) ?_|refine aB.go aA T0 ?_|exact kQ|(refine Br.mk (fun _=>?_) (fun _=>?_)<;>(try(exfalso;omega)))|refine stq ?_|refine Get.one hgi ?_|fail))
       all_goals(conv=>whnf)
       refine⟨k+1,(y::ys)++[k],⟨by omega,by rw[hsu];rfl⟩,by omega,?_⟩;exact Lf.of2 [(0,_),(1,_),(2,_),(3,_),(4,_),(5,_),(8,_),(9,_)] [] (by repeat(first|exact aI.nil|refine aI.cons rfl (by first|exact Rd.same (aX _ _ _ _ _ _)|exact Rd.fn Rds.nil (Rds.cons (Rd.ptr rfl) (Rds.cons (Rd.ptr rfl) Rds.nil))|exact Rd.own (l:=(y::ys)++[k]) (by simp) rfl (by simp) (by simp)|exact rdA|fail) ?_)) (by repeat(first|exact Bxs.nil|refine Bxs.cons rfl rfl rfl (by first|exact Rb.cells (Rds.same (aV (fun _=>rfl))) rfl|exact Rb.cells (Rds.eqs (ag (c:=fun k=>[ca k]) (by intro _;rfl) (y::ys) _) (aE (by intro _;rfl) _)) rfl|exact rbB|exact Rb.cells (by(repeat(first|exact Rds.nil|refine Rds.cons (by first|exact Rd.same (aX _ _ _ _ _ _)|exact Rd.fn Rds.nil (Rds.cons (Rd.ptr rfl) (Rds.cons (Rd.ptr rfl) Rds.nil))|exact Rd.own (l:=(y::ys)++[k]) (by simp) rfl (by simp) (by simp)|exact rdA|fail) ?_|fail));(first|done|fail)) rfl|exact rbC|fail) ?_)) rfl rfl
     | false=>
      rw[hb] at hsu;cases mk with
      | nil=>
       repeat' ((conv=>whnf)<;>(first|refine Idx.atE (d:=boo false) roots[k] rfl hrk (by rw[hb]) ?_|refine aB.go aA T0 ?_|exact kQ|(refine Br.mk (fun _=>?_) (fun _=>?_)<;>(try(exfalso;omega)))|refine stq ?_|refine Get.one hgi ?_|fail))
       all_goals(conv=>whnf)
       refine⟨k+1,[],⟨by omega,by rw[hsu];rfl⟩,by omega,?_⟩;exact Lf.of2 [(0,_),(1,_),(2,_),(3,_),(4,_),(5,_),(8,_)] [] (by repeat(first|exact aI.nil|refine aI.cons rfl (by first|exact Rd.same (aX _ _ _ _ _ _)|exact Rd.fn Rds.nil (Rds.cons (Rd.ptr rfl) (Rds.cons (Rd.ptr rfl) Rds.nil))|exact rdA|fail) ?_)) (by repeat(first|exact Bxs.nil|refine Bxs.cons rfl rfl rfl (by first|exact Rb.cells (Rds.same (aV (fun _=>rfl))) rfl|exact rbB|exact Rb.cells (by(repeat(first|exact Rds.nil|refine Rds.cons (by first|exact Rd.same (aX _ _ _ _ _ _)|exact Rd.fn Rds.nil (Rds.cons (Rd.ptr rfl) (Rds.cons (Rd.ptr rfl) Rds.nil))|exact rdA|fail) ?_|fail));(first|done|fail)) rfl|exact rbC|fail) ?_)) rfl rfl
      | cons y ys=>
       repeat' ((conv=>whnf)<;>(first|refine Idx.atE (d:=boo false) roots[k] rfl hrk (by rw[hb]) ?_|refine aB.go aA T0 ?_|exact kQ|(refine Br.mk (fun _=>?_) (fun _=>?_)<;>(try(exfalso;omega)))|refine stq ?_|refine Get.one hgi ?_|fail))
       all_goals(conv=>whnf)
       refine⟨k+1,y::ys,⟨by omega,by rw[hsu];simp⟩,by omega,?_⟩;exact Lf.of2 [(0,_),(1,_),(2,_),(3,_),(4,_),(5,_),(8,_),(9,_)] [] (by repeat(first|exact aI.nil|refine aI.cons rfl (by first|exact Rd.same (aX _ _ _ _ _ _)|exact Rd.fn Rds.nil (Rds.cons (Rd.ptr rfl) (Rds.cons (Rd.ptr rfl) Rds.nil))|exact rdA|fail) ?_)) (by repeat(first|exact Bxs.nil|refine Bxs.cons rfl rfl rfl (by first|exact Rb.cells (Rds.same (aV (fun _=>rfl))) rfl|exact rbB|exact Rb.cells (by(repeat(first|exact Rds.nil|refine Rds.cons (by first|exact Rd.same (aX _ _ _ _ _ _)|exact Rd.fn Rds.nil (Rds.cons (Rd.ptr rfl) (Rds.cons (Rd.ptr rfl) Rds.nil))|exact rdA|fail) ?_|fail));(first|done|fail)) rfl|exact rbC|fail) ?_)) rfl rfl
    ·have hmk2:mk=gp cur roots 0:=by rw[hmk1,kE (by omega)]
     cases mk with
     | nil=>
      repeat' ((conv=>whnf)<;>(first|refine aB.go aA T0 ?_|exact kQ|(refine Br.mk (fun _=>?_) (fun _=>?_)<;>(try(exfalso;omega)))|refine stq ?_|fail))
      all_goals(conv=>whnf)
      refine⟨⟨f,i+1,ss,[]++[row],[]++[[]]⟩,⟨by rw[hmk2];exact h1,hne,hss,hsl,by dsimp only;have:=(List.getElem?_eq_some_iff.1 hcur).1;omega,by dsimp only;rw[kG,hrw];rfl,by dsimp only;rw[kG,hmk];rfl⟩,by dsimp only;omega,?_⟩;exact Lf.of2 [(0,_),(1,_),(2,_),(3,_),(4,_),(5,_),(6,_),(7,_)] [8,9] (by repeat(first|exact aI.nil|refine aI.cons rfl (by first|exact Rd.same (aX _ _ _ _ _ _)|exact Rd.fn Rds.nil (Rds.cons (Rd.ptr rfl) (Rds.cons (Rd.ptr rfl) Rds.nil))|exact Rd.own (l:=[]++[row]) (by simp) rfl (by simp) (by simp)|exact Rd.own (l:=[]++[[]]) (by simp) rfl (by simp) (by simp)|exact rdA|fail) ?_)) (by repeat(first|exact Bxs.nil|refine Bxs.cons rfl rfl rfl (by first|exact Rb.cells (Rds.cons (lF rfl rfl hrl) Rds.nil) rfl|exact Rb.cells (Rds.cons (mg (l:=y::ys) rfl rfl) Rds.nil) rfl|exact Rb.cells (Rds.cons Rd.nil Rds.nil) rfl|exact rbB|exact Rb.cells (by(repeat(first|exact Rds.nil|refine Rds.cons (by first|exact Rd.same (aX _ _ _ _ _ _)|exact Rd.fn Rds.nil (Rds.cons (Rd.ptr rfl) (Rds.cons (Rd.ptr rfl) Rds.nil))|exact Rd.own (l:=[]++[row]) (by simp) rfl (by simp) (by simp)|exact Rd.own (l:=[]++[[]]) (by simp) rfl (by simp) (by simp)|exact rdA|fail) ?_|fail));(first|done|fail)) rfl|exact rbC|fail) ?_)) rfl rfl
     | cons y ys=>
      repeat' ((conv=>whnf)<;>(first|refine aB.go aA T0 ?_|exact kQ|(refine Br.mk (fun _=>?_) (fun _=>?_)<;>(try(exfalso;omega)))|refine stq ?_|fail))
      all_goals(conv=>whnf)
      refine⟨⟨f,i+1,ss,[]++[row],[]++[(y::ys)]⟩,⟨by rw[hmk2];exact h1,hne,hss,hsl,by dsimp only;have:=(List.getElem?_eq_some_iff.1 hcur).1;omega,by dsimp only;rw[kG,hrw];rfl,by dsimp only;rw[kG,hmk];rfl⟩,by dsimp only;omega,?_⟩;exact Lf.of2 [(0,_),(1,_),(2,_),(3,_),(4,_),(5,_),(6,_),(7,_)] [8,9] (by repeat(first|exact aI.nil|refine aI.cons rfl (by first|exact Rd.same (aX _ _ _ _ _ _)|exact Rd.fn Rds.nil (Rds.cons (Rd.ptr rfl) (Rds.cons (Rd.ptr rfl) Rds.nil))|exact Rd.own (l:=[]++[row]) (by simp) rfl (by simp) (by simp)|exact Rd.own (l:=[]++[(y::ys)]) (by simp) rfl (by simp) (by simp)|exact rdA|fail) ?_)) (by repeat(first|exact Bxs.nil|refine Bxs.cons rfl rfl rfl (by first|exact Rb.cells (Rds.cons (lF rfl rfl hrl) Rds.nil) rfl|exact Rb.cells (Rds.cons (mg (l:=y::ys) rfl rfl) Rds.nil) rfl|exact Rb.cells (Rds.cons Rd.nil Rds.nil) rfl|exact rbB|exact Rb.cells (by(repeat(first|exact Rds.nil|refine Rds.cons (by first|exact Rd.same (aX _ _ _ _ _ _)|exact Rd.fn Rds.nil (Rds.cons (Rd.ptr rfl) (Rds.cons (Rd.ptr rfl) Rds.nil))|exact Rd.own (l:=[]++[row]) (by simp) rfl (by simp) (by simp)|exact Rd.own (l:=[]++[(y::ys)]) (by simp) rfl (by simp) (by simp)|exact rdA|fail) ?_|fail));(first|done|fail)) rfl|exact rbC|fail) ?_)) rfl rfl
  | cons r rs=>
   obtain⟨m,ms,rfl⟩:=kI (show 0<marks.length by simp at hrw;omega);repeat' ((conv=>whnf)<;>(first|refine aB.go aA T0 ?_|exact kQ|(refine Br.mk (fun _=>?_) (fun _=>?_)<;>(try(exfalso;omega)))|refine stq ?_|fail))
   refine aU.by3 aA T0 (fun(c:Nat) (ss:List (List Bool)) (row:List Nat)=>⟨tmp 119 (auT n e back next hits roots i [(9,.sl 8 0 n n 1 true),(39,i64 n),(40,i64 (c:Int))]),⟨9,(8,jv n row)::auH ss (r::rs) (m::ms)⟩⟩)
    (fun c ss row=>jA next cur (n-c) c ss row=some (row',ss')∧c≤n∧row.length=c∧ss≠[]∧ss.length≤400∧(∀ s∈ss,s.length=next.length)∧ss[i]?=some cur) (fun c _ _=>n-c) 0 ss [] ⟨hrow,by omega,rfl,hne,hss,hsl,hcur⟩ ?_ ?_
   ·exact Lf.of2 [(0,_),(1,_),(2,_),(3,_),(4,_),(5,_),(6,_),(7,_),(8,_)] [] (by repeat(first|exact aI.nil|refine aI.cons rfl (by first|exact Rd.same (aX _ _ _ _ _ _)|exact Rd.fn Rds.nil (Rds.cons (Rd.ptr rfl) (Rds.cons (Rd.ptr rfl) Rds.nil))|exact rdA|fail) ?_)) (by repeat(first|exact Bxs.nil|refine Bxs.cons rfl rfl rfl (by first|exact Rb.cells (Rds.eqs (bF (by omega) (fun i _=>by simp)) (aV (fun _=>rfl))) rfl|exact rbB|exact Rb.cells (by(repeat(first|exact Rds.nil|refine Rds.cons (by first|exact Rd.same (aX _ _ _ _ _ _)|exact Rd.fn Rds.nil (Rds.cons (Rd.ptr rfl) (Rds.cons (Rd.ptr rfl) Rds.nil))|exact rdA|fail) ?_|fail));(first|done|fail)) rfl|exact rbC|fail) ?_)) rfl rfl
   clear hrow hss hsl hcur hne hi hlt;intro c ss row ⟨hrow,hcn,hrl,hne,hss,hsl,hcur⟩;have hgi:(ss.flatMap mu)[i]?=some (bU cur):=by rw[ad];simp[hcur]
   have hil:i<ss.length:=(List.getElem?_eq_some_iff.1 hcur).1;by_cases hc:c<n
   ·repeat' ((conv=>whnf)<;>(first|refine aB.go aA T0 ?_|exact kQ|(refine Br.mk (fun _=>?_) (fun _=>?_)<;>(try(exfalso;omega)))|refine stq ?_|fail))
    refine aU.by aA T0 (fun k:Nat=>⟨tmp 119 (auT n e back next hits roots i [(9,.sl 8 0 n n 1 true),(10,i64 (c:Int)),(11,.sl 9 0 next.length next.length 1 true),(39,i64 n),(40,i64 (c:Int)),(52,bn next),(53,i64 next.length),(54,i64 (k:Int))]),⟨10,(9,Dk next.length k (nxB next cur c))::(8,jv n row)::auH ss (r::rs) (m::ms)⟩⟩)
     (fun k=>k≤next.length) (fun k=>next.length-k) 0 (by omega) ?_ ?_
    ·exact Lf.of2 [(0,_),(1,_),(2,_),(3,_),(4,_),(5,_),(6,_),(7,_),(8,_),(9,_)] [] (by repeat(first|exact aI.nil|refine aI.cons rfl (by first|exact Rd.same (aX _ _ _ _ _ _)|exact Rd.fn Rds.nil (Rds.cons (Rd.ptr rfl) (Rds.cons (Rd.ptr rfl) Rds.nil))|exact rdA|fail) ?_)) (by repeat(first|exact Bxs.nil|refine Bxs.cons rfl rfl rfl (by first|exact Rb.cells (Rds.eqs (bF (by omega) (fun i _=>by simp)) (aV (fun _=>rfl))) rfl|exact Rb.cells (Rds.same (aV (fun _=>rfl))) rfl|exact rbB|exact Rb.cells (by(repeat(first|exact Rds.nil|refine Rds.cons (by first|exact Rd.same (aX _ _ _ _ _ _)|exact Rd.fn Rds.nil (Rds.cons (Rd.ptr rfl) (Rds.cons (Rd.ptr rfl) Rds.nil))|exact rdA|fail) ?_|fail));(first|done|fail)) rfl|exact rbC|fail) ?_)) rfl rfl
    intro k hk;by_cases hk2:k<next.length
    ·have hrk:=hr _ (kM hk2);have hck:c<next[k].length:=by omega
     have hx2:next[k][c]<cur.length:=by rw[hcl];exact hrk.2 _ (kM hck)
     have hg:=yM hk2 hck hx2;repeat' ((conv=>whnf)<;>(first|refine aB.go aA T0 ?_|exact kQ|(refine Br.mk (fun _=>?_) (fun _=>?_)<;>(try(exfalso;omega)))|refine stq ?_|refine bK.by (id:=17) aA T0 [0,0,0,0,12,28,0,0,192,448,1020,2044,4095,8191] (by kernel_rfl) ?_|refine Get.one hgi ?_|refine Put.one (by simp;omega) ?_|fail))
     all_goals(conv=>whnf)
     refine⟨k+1,by omega,by omega,?_⟩;exact Lf.of2 [(0,_),(1,_),(2,_),(3,_),(4,_),(5,_),(6,_),(7,_),(8,_),(9,_)] [] (by repeat(first|exact aI.nil|refine aI.cons rfl (by first|exact Rd.same (aX _ _ _ _ _ _)|exact Rd.fn Rds.nil (Rds.cons (Rd.ptr rfl) (Rds.cons (Rd.ptr rfl) Rds.nil))|exact rdA|fail) ?_)) (by repeat(first|exact Bxs.nil|refine Bxs.cons rfl rfl rfl (by first|exact Rb.cells (Rds.eqs (bq (by rw[hg];simp) (fun i _ hi=>by simp only[show(decide (i<k+1))=(decide (i<k)) from by rw[decide_eq_decide];omega])) (aV (fun _=>rfl))) rfl|exact Rb.cells (Rds.same (aV (fun _=>rfl))) rfl|exact rbB|exact Rb.cells (by(repeat(first|exact Rds.nil|refine Rds.cons (by first|exact Rd.same (aX _ _ _ _ _ _)|exact Rd.fn Rds.nil (Rds.cons (Rd.ptr rfl) (Rds.cons (Rd.ptr rfl) Rds.nil))|exact rdA|fail) ?_|fail));(first|done|fail)) rfl|exact rbC|fail) ?_)) rfl rfl
    ·have hfin:(ao next.length fun j=>boo (decide (j<k)&&(nxB next cur c).getD j false))=(nxB next cur c).map boo:=by
      have e:next.length=(nxB next cur c).length:=by simp
      rw[e];exact c8 fun j hj=>by rw[aW hj,decide_eq_true (by simp at hj;omega),Bool.true_and]
     have hfz:∀ {fz:Nat→Bool} {σ:Nat→Option Nat} {h:aC},fz 9=true→h.get 9=some (Dk next.length k (nxB next cur c))→Rd h fz σ (.sl 9 0 next.length next.length 1 true) (bU (nxB next cur c)):=fun h1 h2=>by
      have e:(nxB next cur c).length=next.length:=by simp
      unfold bU lst;rw[e];exact .frz h1 h2 (by simp) (.eqs (by rw[hfin,List.drop_zero,kE (by simp)]) (aa (fun _=>rfl) _))
     have hnc:n-c=(n-(c+1))+1:=by omega
     rw[hnc] at hrow;by_cases hs:nxB next cur c∈ss
     ·simp only[jA,hs,if_true] at hrow
      repeat' ((conv=>whnf)<;>(first|refine aB.go aA T0 ?_|exact kQ|(refine Br.mk (fun _=>?_) (fun _=>?_)<;>(try(exfalso;omega)))|refine stq ?_|refine Cll.emb (uk (s:=nxB next cur c) (by simp;omega) hs) [(0,1),(1,2),(2,3),(3,4)] [9] (i64 (ss.idxOf (nxB next cur c):Int)) [(1,.cells [.map 2] true),(2,.map (pos (kU ss) 0)),(3,.cells [.sl 4 0 ss.length ss.length 1 false] true),(4,.cells (ss.flatMap mu) false)] [(0,.cells [aY,aY] true),(8,jv n row),(5,.cells [ai 6 1 (r::rs),ai 7 1 (m::ms)] true),(6,.cells ((r::rs).flatMap ntC) false),(7,.cells ((m::ms).flatMap ntC) false)] rfl (by(repeat(first|exact Rds.nil|refine Rds.cons (by first|exact hfz rfl rfl|exact rdA|fail) ?_|fail));(first|done|fail)) (by(repeat(first|exact Bxs.nil|refine Bxs.cons rfl rfl rfl (by first|exact Rb.map (Res.same (ab _ _))|exact rbB|exact Rb.cells (by(repeat(first|exact Rds.nil|refine Rds.cons (by first|exact hfz rfl rfl|exact rdA|fail) ?_|fail));(first|done|fail)) rfl|exact rbC|fail) ?_|fail));(first|done|fail)) (by first|exact hfz rfl rfl|exact rdA|fail) (by(repeat(first|exact Bxs.nil|refine Bxs.cons rfl rfl rfl (by first|exact Rb.map (Res.same (ab _ _))|exact rbB|exact Rb.cells (by(repeat(first|exact Rds.nil|refine Rds.cons (by first|exact hfz rfl rfl|exact rdA|fail) ?_|fail));(first|done|fail)) rfl|exact rbC|fail) ?_|fail));(first|done|fail)) (by(repeat(first|exact ap.nil|refine ap.cons rfl rfl rfl ?_|fail));(first|done|fail)) ?_|refine Put.one (by simp;omega) ?_|fail))
      all_goals(conv=>whnf)
      refine⟨c+1,ss,row++[ss.idxOf (nxB next cur c)],⟨hrow,by omega,by simp[hrl],hne,hss,hsl,hcur⟩,by omega,?_⟩;exact Lf.of2 [(0,_),(1,_),(2,_),(3,_),(4,_),(5,_),(6,_),(7,_),(8,_)] [] (by repeat(first|exact aI.nil|refine aI.cons rfl (by first|exact Rd.same (aX _ _ _ _ _ _)|exact Rd.fn Rds.nil (Rds.cons (Rd.ptr rfl) (Rds.cons (Rd.ptr rfl) Rds.nil))|exact rdA|fail) ?_)) (by repeat(first|exact Bxs.nil|refine Bxs.cons rfl rfl rfl (by first|exact Rb.cells (Rds.eqs (gv hrl) (aV (fun _=>rfl))) rfl|exact rbB|exact Rb.cells (by(repeat(first|exact Rds.nil|refine Rds.cons (by first|exact Rd.same (aX _ _ _ _ _ _)|exact Rd.fn Rds.nil (Rds.cons (Rd.ptr rfl) (Rds.cons (Rd.ptr rfl) Rds.nil))|exact rdA|fail) ?_|fail));(first|done|fail)) rfl|exact rbC|fail) ?_)) rfl rfl
     ·by_cases hs4:ss.length<400
      ·simp only[jA,hs,if_false,hs4,if_true] at hrow;have hsl2:(ss++[nxB next cur c]).length=ss.length+1:=by simp
       repeat' ((conv=>whnf)<;>(first|refine aB.go aA T0 ?_|exact kQ|(refine Br.mk (fun _=>?_) (fun _=>?_)<;>(try(exfalso;omega)))|refine stq ?_|refine Cll.emb (ul (s:=nxB next cur c) (by simp;omega) hne hs (by omega)) [(0,1),(1,2),(2,3),(3,4)] [9] (i64 (ss.length:Int)) [(1,.cells [.map 2] true),(2,.map (pos (kU (ss++[nxB next cur c])) 0)),(3,.cells [.sl 40 0 (ss++[nxB next cur c]).length (ss++[nxB next cur c]).length 1 false] true),(40,.cells ((ss++[nxB next cur c]).flatMap mu) false)] [(0,.cells [aY,aY] true),(8,jv n row),(5,.cells [ai 6 1 (r::rs),ai 7 1 (m::ms)] true),(6,.cells ((r::rs).flatMap ntC) false),(7,.cells ((m::ms).flatMap ntC) false)] rfl (by(repeat(first|exact Rds.nil|refine Rds.cons (by first|exact hfz rfl rfl|exact rdA|fail) ?_|fail));(first|done|fail)) (by(repeat(first|exact Bxs.nil|refine Bxs.cons rfl rfl rfl (by first|exact Rb.map (Res.same (ab _ _))|exact rbB|exact Rb.cells (by(repeat(first|exact Rds.nil|refine Rds.cons (by first|exact hfz rfl rfl|exact rdA|fail) ?_|fail));(first|done|fail)) rfl|exact rbC|fail) ?_|fail));(first|done|fail)) (by first|exact hfz rfl rfl|exact rdA|fail) (by(repeat(first|exact Bxs.nil|refine Bxs.cons rfl rfl rfl (by first|exact Rb.map (Res.same (ab _ _))|exact rbB|exact Rb.cells (by(repeat(first|exact Rds.nil|refine Rds.cons (by first|exact hfz rfl rfl|exact rdA|fail) ?_|fail));(first|done|fail)) rfl|exact rbC|fail) ?_|fail));(first|done|fail)) (by(repeat(first|exact ap.nil|refine ap.cons rfl rfl rfl ?_|fail));(first|done|fail)) ?_|refine Put.one (by simp;omega) ?_|fail))
       all_goals(conv=>whnf)
       refine⟨c+1,ss++[nxB next cur c],row++[ss.length],⟨hrow,by omega,by simp[hrl],by simp,by simp;omega,fun s hs=>?_,by rw[List.getElem?_append_left hil];exact hcur⟩,by omega,?_⟩
       ·rcases List.mem_append.1 hs with hs|hs
        ·exact hsl s hs
        ·simp at hs;subst hs;simp
       exact Lf.of2 [(0,_),(1,_),(2,_),(3,_),(4,_),(5,_),(6,_),(7,_),(8,_)] [] (by repeat(first|exact aI.nil|refine aI.cons rfl (by first|exact Rd.same (aX _ _ _ _ _ _)|exact Rd.fn Rds.nil (Rds.cons (Rd.ptr rfl) (Rds.cons (Rd.ptr rfl) Rds.nil))|exact rdA|fail) ?_)) (by repeat(first|exact Bxs.nil|refine Bxs.cons rfl rfl rfl (by first|exact Rb.cells (Rds.eqs (gv hrl) (aV (fun _=>rfl))) rfl|exact rbB|exact Rb.cells (by(repeat(first|exact Rds.nil|refine Rds.cons (by first|exact Rd.same (aX _ _ _ _ _ _)|exact Rd.fn Rds.nil (Rds.cons (Rd.ptr rfl) (Rds.cons (Rd.ptr rfl) Rds.nil))|exact rdA|fail) ?_|fail));(first|done|fail)) rfl|exact rbC|fail) ?_)) rfl rfl
      ·simp only[jA,hs,if_false,hs4] at hrow;cases hrow
   ·rw[show n-c=0 from by omega] at hrow;simp only[jA,kA,kB] at hrow;obtain⟨rfl,rfl⟩:=hrow;obtain rfl:c=n:=by omega
    repeat' ((conv=>whnf)<;>(first|refine aB.go aA T0 ?_|exact kQ|(refine Br.mk (fun _=>?_) (fun _=>?_)<;>(try(exfalso;omega)))|refine stq ?_|fail))
    refine aU.by2 aA T0 (fun(k:Nat) (mk:List Nat)=>⟨tmp 119 (auT c e back next hits roots i [(9,.sl 8 0 c c 1 true),(14,ai 9 1 mk),(87,dN roots),(88,i64 roots.length),(89,i64 (k:Int))]),⟨10,cY 9 (fun k=>[ca k]) mk++((8,jv c row)::auH ss (r::rs) (m::ms))⟩⟩)
     (fun k mk=>k≤roots.length∧mk=gp cur (roots.take k) 0) (fun k _=>roots.length-k) 0 [] ⟨by omega,by simp[gp]⟩ ?_ ?_
    ·exact Lf.of2 [(0,_),(1,_),(2,_),(3,_),(4,_),(5,_),(6,_),(7,_),(8,_)] [] (by repeat(first|exact aI.nil|refine aI.cons rfl (by first|exact Rd.same (aX _ _ _ _ _ _)|exact Rd.fn Rds.nil (Rds.cons (Rd.ptr rfl) (Rds.cons (Rd.ptr rfl) Rds.nil))|exact rdA|fail) ?_)) (by repeat(first|exact Bxs.nil|refine Bxs.cons rfl rfl rfl (by first|exact Rb.cells (Rds.same (aV (fun _=>rfl))) rfl|exact rbB|exact Rb.cells (by(repeat(first|exact Rds.nil|refine Rds.cons (by first|exact Rd.same (aX _ _ _ _ _ _)|exact Rd.fn Rds.nil (Rds.cons (Rd.ptr rfl) (Rds.cons (Rd.ptr rfl) Rds.nil))|exact rdA|fail) ?_|fail));(first|done|fail)) rfl|exact rbC|fail) ?_)) rfl rfl
    intro k mk ⟨hk,hmk1⟩;have hmkl:mk.length≤roots.length:=by rw[hmk1];exact Nat.le_trans (qA _ _) (by simp;omega)
    by_cases hk2:k<roots.length
    ·have hrk:=hrt _ (kM hk2);rw[←hcl] at hrk;have hsu:=rm hk2 hrk;rw[←hmk1] at hsu;cases hb:cur[roots[k]] with
     | true=>
      rw[hb] at hsu;cases mk with
      | nil=>
       repeat' ((conv=>whnf)<;>(first|refine Idx.atE (d:=boo true) roots[k] rfl hrk (by rw[hb]) ?_|refine aB.go aA T0 ?_|exact kQ|(refine Br.mk (fun _=>?_) (fun _=>?_)<;>(try(exfalso;omega)))|refine stq ?_|refine Get.one hgi ?_|fail))
       all_goals(conv=>whnf)
       refine⟨k+1,[k],⟨by omega,by rw[hsu];rfl⟩,by omega,?_⟩;exact Lf.of2 [(0,_),(1,_),(2,_),(3,_),(4,_),(5,_),(6,_),(7,_),(8,_),(9,_)] [] (by repeat(first|exact aI.nil|refine aI.cons rfl (by first|exact Rd.same (aX _ _ _ _ _ _)|exact Rd.fn Rds.nil (Rds.cons (Rd.ptr rfl) (Rds.cons (Rd.ptr rfl) Rds.nil))|exact rdA|fail) ?_)) (by repeat(first|exact Bxs.nil|refine Bxs.cons rfl rfl rfl (by first|exact Rb.cells (Rds.same (aV (fun _=>rfl))) rfl|exact rbB|exact Rb.cells (by(repeat(first|exact Rds.nil|refine Rds.cons (by first|exact Rd.same (aX _ _ _ _ _ _)|exact Rd.fn Rds.nil (Rds.cons (Rd.ptr rfl) (Rds.cons (Rd.ptr rfl) Rds.nil))|exact rdA|fail) ?_|fail));(first|done|fail)) rfl|exact rbC|fail) ?_)) rfl rfl
      | cons y ys=>
       have hy2:(y::ys).length=ys.length+1:=rfl;repeat' ((conv=>whnf)<;>(first|refine Idx.atE (d:=boo true) roots[k] rfl hrk (by rw[hb]) ?_|refine aB.go aA T0 ?_|exact kQ|(refine Br.mk (fun _=>?_) (fun _=>?_)<;>(try(exfalso;omega)))|refine stq ?_|refine Get.one hgi ?_|fail))
       all_goals(conv=>whnf)
       refine⟨k+1,(y::ys)++[k],⟨by omega,by rw[hsu];rfl⟩,by omega,?_⟩;exact Lf.of2 [(0,_),(1,_),(2,_),(3,_),(4,_),(5,_),(6,_),(7,_),(8,_),(9,_)] [] (by repeat(first|exact aI.nil|refine aI.cons rfl (by first|exact Rd.same (aX _ _ _ _ _ _)|exact Rd.fn Rds.nil (Rds.cons (Rd.ptr rfl) (Rds.cons (Rd.ptr rfl) Rds.nil))|exact Rd.own (l:=(y::ys)++[k]) (by simp) rfl (by simp) (by simp)|exact rdA|fail) ?_)) (by repeat(first|exact Bxs.nil|refine Bxs.cons rfl rfl rfl (by first|exact Rb.cells (Rds.same (aV (fun _=>rfl))) rfl|exact Rb.cells (Rds.eqs (ag (c:=fun k=>[ca k]) (by intro _;rfl) (y::ys) _) (aE (by intro _;rfl) _)) rfl|exact rbB|exact Rb.cells (by(repeat(first|exact Rds.nil|refine Rds.cons (by first|exact Rd.same (aX _ _ _ _ _ _)|exact Rd.fn Rds.nil (Rds.cons (Rd.ptr rfl) (Rds.cons (Rd.ptr rfl) Rds.nil))|exact Rd.own (l:=(y::ys)++[k]) (by simp) rfl (by simp) (by simp)|exact rdA|fail) ?_|fail));(first|done|fail)) rfl|exact rbC|fail) ?_)) rfl rfl
     | false=>
      rw[hb] at hsu;cases mk with
      | nil=>
       repeat' ((conv=>whnf)<;>(first|refine Idx.atE (d:=boo false) roots[k] rfl hrk (by rw[hb]) ?_|refine aB.go aA T0 ?_|exact kQ|(refine Br.mk (fun _=>?_) (fun _=>?_)<;>(try(exfalso;omega)))|refine stq ?_|refine Get.one hgi ?_|fail))
       all_goals(conv=>whnf)
       refine⟨k+1,[],⟨by omega,by rw[hsu];rfl⟩,by omega,?_⟩;exact Lf.of2 [(0,_),(1,_),(2,_),(3,_),(4,_),(5,_),(6,_),(7,_),(8,_)] [] (by repeat(first|exact aI.nil|refine aI.cons rfl (by first|exact Rd.same (aX _ _ _ _ _ _)|exact Rd.fn Rds.nil (Rds.cons (Rd.ptr rfl) (Rds.cons (Rd.ptr rfl) Rds.nil))|exact rdA|fail) ?_)) (by repeat(first|exact Bxs.nil|refine Bxs.cons rfl rfl rfl (by first|exact Rb.cells (Rds.same (aV (fun _=>rfl))) rfl|exact rbB|exact Rb.cells (by(repeat(first|exact Rds.nil|refine Rds.cons (by first|exact Rd.same (aX _ _ _ _ _ _)|exact Rd.fn Rds.nil (Rds.cons (Rd.ptr rfl) (Rds.cons (Rd.ptr rfl) Rds.nil))|exact rdA|fail) ?_|fail));(first|done|fail)) rfl|exact rbC|fail) ?_)) rfl rfl
      | cons y ys=>
       repeat' ((conv=>whnf)<;>(first|refine Idx.atE (d:=boo false) roots[k] rfl hrk (by rw[hb]) ?_|refine aB.go aA T0 ?_|exact kQ|(refine Br.mk (fun _=>?_) (fun _=>?_)<;>(try(exfalso;omega)))|refine stq ?_|refine Get.one hgi ?_|fail))
       all_goals(conv=>whnf)
       refine⟨k+1,y::ys,⟨by omega,by rw[hsu];simp⟩,by omega,?_⟩;exact Lf.of2 [(0,_),(1,_),(2,_),(3,_),(4,_),(5,_),(6,_),(7,_),(8,_),(9,_)] [] (by repeat(first|exact aI.nil|refine aI.cons rfl (by first|exact Rd.same (aX _ _ _ _ _ _)|exact Rd.fn Rds.nil (Rds.cons (Rd.ptr rfl) (Rds.cons (Rd.ptr rfl) Rds.nil))|exact rdA|fail) ?_)) (by repeat(first|exact Bxs.nil|refine Bxs.cons rfl rfl rfl (by first|exact Rb.cells (Rds.same (aV (fun _=>rfl))) rfl|exact rbB|exact Rb.cells (by(repeat(first|exact Rds.nil|refine Rds.cons (by first|exact Rd.same (aX _ _ _ _ _ _)|exact Rd.fn Rds.nil (Rds.cons (Rd.ptr rfl) (Rds.cons (Rd.ptr rfl) Rds.nil))|exact rdA|fail) ?_|fail));(first|done|fail)) rfl|exact rbC|fail) ?_)) rfl rfl
    ·have hmk2:mk=gp cur roots 0:=by rw[hmk1,kE (by omega)]
     cases mk with
     | nil=>
      repeat' ((conv=>whnf)<;>(first|refine aB.go aA T0 ?_|exact kQ|(refine Br.mk (fun _=>?_) (fun _=>?_)<;>(try(exfalso;omega)))|refine stq ?_|fail))
      all_goals(conv=>whnf)
      refine⟨⟨f,i+1,ss,(r::rs)++[row],(m::ms)++[[]]⟩,⟨by rw[hmk2];exact h1,hne,hss,hsl,by dsimp only;have:=(List.getElem?_eq_some_iff.1 hcur).1;omega,by dsimp only;rw[kG,hrw];rfl,by dsimp only;rw[kG,hmk];rfl⟩,by dsimp only;omega,?_⟩;exact Lf.of2 [(0,_),(1,_),(2,_),(3,_),(4,_),(5,_),(6,_),(7,_)] [8,9] (by repeat(first|exact aI.nil|refine aI.cons rfl (by first|exact Rd.same (aX _ _ _ _ _ _)|exact Rd.fn Rds.nil (Rds.cons (Rd.ptr rfl) (Rds.cons (Rd.ptr rfl) Rds.nil))|exact Rd.own (l:=(r::rs)++[row]) (by simp) rfl (by simp) (by simp)|exact Rd.own (l:=(m::ms)++[[]]) (by simp) rfl (by simp) (by simp)|exact rdA|fail) ?_)) (by repeat(first|exact Bxs.nil|refine Bxs.cons rfl rfl rfl (by first|exact Rb.cells (gL (l:=r::rs) (lF rfl rfl hrl)) rfl|exact Rb.cells (gL (l:=m::ms) (mg (l:=y::ys) rfl rfl)) rfl|exact Rb.cells (gL (l:=m::ms) (r:=[]) Rd.nil) rfl|exact rbB|exact Rb.cells (by(repeat(first|exact Rds.nil|refine Rds.cons (by first|exact Rd.same (aX _ _ _ _ _ _)|exact Rd.fn Rds.nil (Rds.cons (Rd.ptr rfl) (Rds.cons (Rd.ptr rfl) Rds.nil))|exact Rd.own (l:=(r::rs)++[row]) (by simp) rfl (by simp) (by simp)|exact Rd.own (l:=(m::ms)++[[]]) (by simp) rfl (by simp) (by simp)|exact rdA|fail) ?_|fail));(first|done|fail)) rfl|exact rbC|fail) ?_)) rfl rfl
     | cons y ys=>
      repeat' ((conv=>whnf)<;>(first|refine aB.go aA T0 ?_|exact kQ|(refine Br.mk (fun _=>?_) (fun _=>?_)<;>(try(exfalso;omega)))|refine stq ?_|fail))
      all_goals(conv=>whnf)
      refine⟨⟨f,i+1,ss,(r::rs)++[row],(m::ms)++[(y::ys)]⟩,⟨by rw[hmk2];exact h1,hne,hss,hsl,by dsimp only;have:=(List.getElem?_eq_some_iff.1 hcur).1;omega,by dsimp only;rw[kG,hrw];rfl,by dsimp only;rw[kG,hmk];rfl⟩,by dsimp only;omega,?_⟩;exact Lf.of2 [(0,_),(1,_),(2,_),(3,_),(4,_),(5,_),(6,_),(7,_)] [8,9] (by repeat(first|exact aI.nil|refine aI.cons rfl (by first|exact Rd.same (aX _ _ _ _ _ _)|exact Rd.fn Rds.nil (Rds.cons (Rd.ptr rfl) (Rds.cons (Rd.ptr rfl) Rds.nil))|exact Rd.own (l:=(r::rs)++[row]) (by simp) rfl (by simp) (by simp)|exact Rd.own (l:=(m::ms)++[(y::ys)]) (by simp) rfl (by simp) (by simp)|exact rdA|fail) ?_)) (by repeat(first|exact Bxs.nil|refine Bxs.cons rfl rfl rfl (by first|exact Rb.cells (gL (l:=r::rs) (lF rfl rfl hrl)) rfl|exact Rb.cells (gL (l:=m::ms) (mg (l:=y::ys) rfl rfl)) rfl|exact Rb.cells (gL (l:=m::ms) (r:=[]) Rd.nil) rfl|exact rbB|exact Rb.cells (by(repeat(first|exact Rds.nil|refine Rds.cons (by first|exact Rd.same (aX _ _ _ _ _ _)|exact Rd.fn Rds.nil (Rds.cons (Rd.ptr rfl) (Rds.cons (Rd.ptr rfl) Rds.nil))|exact Rd.own (l:=(r::rs)++[row]) (by simp) rfl (by simp) (by simp)|exact Rd.own (l:=(m::ms)++[(y::ys)]) (by simp) rfl (by simp) (by simp)|exact rdA|fail) ?_|fail));(first|done|fail)) rfl|exact rbC|fail) ?_)) rfl rfl
 ·have h2:ss[i]?=none:=List.getElem?_eq_none (by omega);simp only[jj,h2,kA,kB] at h1;obtain⟨rfl,rfl⟩:=h1;cases rows with
  | nil=>
   obtain rfl:marks=[]:=List.eq_nil_of_length_eq_zero (l:=marks) (by simp at hrw;omega);repeat' ((conv=>whnf)<;>(first|refine aB.go aA T0 ?_|exact kQ|(refine Br.mk (fun _=>?_) (fun _=>?_)<;>(try(exfalso;omega)))|refine stq ?_|fail))
   all_goals(conv=>whnf)
   exact⟨.tup (.cons (.agg (.cons .nil (.cons .nil .nil))) (.cons (.same rfl) .nil))⟩
  | cons r rs=>
   obtain⟨m,ms,rfl⟩:=kI (show 0<marks.length by simp at hrw;omega);repeat' ((conv=>whnf)<;>(first|refine aB.go aA T0 ?_|exact kQ|(refine Br.mk (fun _=>?_) (fun _=>?_)<;>(try(exfalso;omega)))|refine stq ?_|fail))
   all_goals(conv=>whnf)
   exact⟨.tup (.cons (.agg (.cons (qM (l:=r::rs) rfl rfl) (.cons (qM (l:=m::ms) rfl rfl) .nil))) (.cons (.same rfl) .nil))⟩
end Go.Proofs.YtnjmcdmjmaopdaaGreatDoor
