/-
  Contracts of functions over data: the automaton of a machine.
-/
import Derived.Test.YtjpgpihbhicinaaGreatDoorC5
import Derived.Test.YtjpgpihbhicinaaGreatDoorAmF
set_option linter.unusedSectionVars false
namespace Go.Proofs.YtjpgpihbhicinaaGreatDoor
open Go Go.Am Classical
set_option maxRecDepth 100000
variable [GT]
abbrev bk (l:List (List Nat)):D:=lst dL l
theorem bZ (l:List (List Nat)):aJ (bk l)=true:=ft bR l
abbrev ntC (r:List Nat):List D:=[dL r]
theorem xT (s:List Bool):aB (nP s)=true:=by simp[aB,aS]
theorem r8 (s:List Nat):aB (ntC s)=true:=by simp[aB,bR]
def nxB (next:List (List Nat)) (cur:List Bool) (c:Nat):List Bool:=next.map fun r=>cur.getD (r.getD c 0) false
@[simp] theorem nxB_len {next:List (List Nat)} {cur:List Bool} {c:Nat}:(nxB next cur c).length=next.length:=by simp[nxB]
def jF (next:List (List Nat)) (cur:List Bool):Nat->Nat->List (List Bool)->List Nat->Option (List Nat×List (List Bool))
 | 0,_,ss,row=>some (row,ss)
 | k+1,c,ss,row=>
  if nxB next cur c∈ss then jF next cur k (c+1) ss (row++[ss.idxOf (nxB next cur c)])
  else if ss.length<400 then jF next cur k (c+1) (ss++[nxB next cur c]) (row++[ss.length]) else none
def gn (cur:List Bool):List Nat->Nat->List Nat
 | [],_=>[]
 | r::l,i=>if cur.getD r false then i::gn cur l (i+1) else gn cur l (i+1)
def jo (n:Nat) (next:List (List Nat)) (roots:List Nat):Nat->Nat->List (List Bool)->List (List Nat)->List (List Nat)->Option (List (List Nat)×List (List Nat))
 | 0,_,_,_,_=>none
 | f+1,i,ss,rows,marks=>
  match ss[i]? with
  | none=>some (rows,marks)
  | some cur=>
   match jF next cur n 0 ss [] with
   | none=>none
   | some (row,ss')=>jo n next roots f (i+1) ss' (rows++[row]) (marks++[gn cur roots 0])
theorem oU {cur:List Bool}:∀ (l m:List Nat) (i:Nat),gn cur (l++m) i=gn cur l i++gn cur m (i+l.length)
 | [],m,i=>by simp[gn]
 | r::l,m,i=>by
  simp only[List.cons_append,gn,kO,oU l m (i+1),show i+1+l.length=i+(l.length+1) from by omega];split<;>simp
theorem qN {cur:List Bool}:∀ (l:List Nat) (i:Nat),(gn cur l i).length<=l.length
 | [],i=>by simp[gn]
 | r::l,i=>by
  have:=qN (cur:=cur) l (i+1)
  simp only[gn];split<;>simp<;>omega
theorem CV {ss:List (List Bool)}{s:List Bool}:(kV ss).idxOf (jl s)=ss.idxOf s:=by
 induction ss with
 | nil=>rfl
 | cons t ts ih=>
  simp only[kV,List.map_cons,List.idxOf_cons] at ih ⊢;by_cases h:t=s
  ·subst h;simp
  ·have h2:¬jl t=jl s:=fun e=>h (qb e)
   rw[beq_eq_false_iff_ne.2 h,beq_eq_false_iff_ne.2 h2];simp only[cond_false,ih]
abbrev auN (ss:List (List Bool)):List (Nat×Box):=[(0,.cells [.map 1] true),(1,.map (pos (kV ss) 0)),(2,.cells [.sl 3 0 ss.length ss.length 1 false] true),(3,.cells (ss.flatMap nP) false)]
theorem vH {ss:List (List Bool)}{s:List Bool}(hl:s.length<=1000000) (hs:s∈ss) :
  AC1 Tryz.prog 135 [bS s,.ptr 0 0,.ptr 2 0] ⟨4,auN ss⟩ (i64 (ss.idxOf s:Int)) ⟨20,auN ss⟩:=by
 have:=xO hl hs
 rw[CV] at this;cases ss with
 | nil=>simp at hs
 | cons t ts=>exact this
theorem vI {ss:List (List Bool)}{s:List Bool}(hl:s.length<=1000000) (h0:ss≠[]) (hs:¬s∈ss) (hn:ss.length<=1000000) :
  AC1 Tryz.prog 135 [bS s,.ptr 0 0,.ptr 2 0] ⟨4,auN ss⟩ (i64 (ss.length:Int)) ⟨32,auR ss s⟩:=by
 have:=r6 hl hs hn
 cases ss with
 | nil=>simp at h0
 | cons t ts=>exact this
abbrev CA (n e:Nat) (back:Bool) (next:List (List Nat)) (hits:List Bool) (roots:List Nat):List D:=[i64 n,i64 e,boo back,bk next,bS hits,dL roots]
abbrev auT (n e:Nat) (back:Bool) (next:List (List Nat)) (hits:List Bool) (roots:List Nat) (i:Nat) (tl:List (Nat×D)):List (Nat×D):=
 (0,.iptr (CA n e back next hits roots))::(2,.ptr 0 0)::(5,.ptr 3 0)::(6,.fn (.func 135) [] [.ptr 1 0,.ptr 3 0])::(7,.ptr 5 0)::(8,i64 (i:Int))::tl
abbrev auH (ss:List (List Bool)) (rows marks:List (List Nat)):List (Nat×Box):=
 (0,.cells [aT,aT] true)::(1,.cells [.map 2] true)::(2,.map (pos (kV ss) 0))::(3,.cells [.sl 4 0 ss.length ss.length 1 false] true)::(4,.cells (ss.flatMap nP) false)::(5,.cells [ai 6 1 rows,ai 7 1 marks] true)::(cW 6 ntC rows++cW 7 ntC marks)
theorem aY (n e:Nat) (back:Bool) (next:List (List Nat)) (hits:List Bool) (roots:List Nat):aJ (.iptr (CA n e back next hits roots))=true:=by simp[aJ,aB,bZ,bR,aS]
theorem mG {d:D}(h:aJ d=true):aB [d]=true:=by simp[aB,h]
structure ASt where
 f:Nat
 i:Nat
 ss:List (List Bool)
 rows:List (List Nat)
 marks:List (List Nat)
abbrev j3 (n:Nat) (row:List Nat):Box:=.cells (ao n fun j=>i64 ((row.getD j 0:Nat):Int)) true
abbrev D7 (N k:Nat) (s:List Bool):Box:=.cells (ao N fun j=>boo (decide (j<k)&&s.getD j false)) true
theorem Cc {l:List Nat}{x j:Nat}(h:j≠l.length):(l++[x]).getD j 0=l.getD j 0:=by
 rcases(by omega:j<l.length∨l.length<j) with h1|h1
 ·rw[aX (by simp;omega),aX h1,List.getElem_append_left h1]
 ·simp only[List.getD];rw[List.getElem?_eq_none (by simp;omega),List.getElem?_eq_none (by omega)]
theorem Cb {l:List Nat}{x j:Nat}(h:j=l.length):(l++[x]).getD j 0=x:=by
 subst h;simp[List.getD]
theorem yh {next:List (List Nat)}{cur:List Bool}{c k:Nat}(h1:k<next.length) (h2:c<next[k].length) (h3:next[k][c]<cur.length):(nxB next cur c).getD k false=cur[next[k][c]]:=by
 rw[aX (by simpa using h1)];simp only[nxB,List.getElem_map];rw[aX h2,aX h3]
theorem gu {n c x:Nat}{row:List Nat}(h:row.length=c):(ao n fun j=>i64 ((row.getD j 0:Nat):Int)).set c (i64 (x:Int))=ao n fun j=>i64 (((row++[x]).getD j 0:Nat):Int):=
 bq (by rw[Cb h.symm]) (fun j _ hj=>by rw[Cc (by omega)])
section
variable {h:aC}{fz:Nat->Bool}{σ:Nat->Option Nat}
theorem gG {l:List (List Nat)}{r:List Nat}{d:D}(hd:Rd h fz σ d (dL r)):Rds h fz σ (((l.flatMap ntC).drop 0).take (l.length*1)++[d]) ((l++[r]).flatMap ntC):=by
 rw[List.flatMap_append];refine Rds.app (.eqs ?_ (aD r8 _)) (.cons hd .nil);rw[List.drop_zero,kE (by rw[aq (sz:=1) (fun _=>rfl)];exact kP _)]
theorem lH {id n:Nat}{row:List Nat}{ex:Bool}(hf:fz id=true) (hg:h.get id=some (j3 n row)) (hl:row.length=n):Rd h fz σ (.sl id 0 n n 1 ex) (dL row):=by
 subst hl;refine .frz hf hg (by simp) (.eqs ?_ (aZ (fun _=>rfl) _));rw[List.drop_zero,kE (by simp)];exact c7 fun i hi=>by rw[aX hi]
theorem nE {id:Nat}{l:List Nat}{ex bx:Bool}(hf:fz id=true) (hg:h.get id=some (.cells (l.flatMap fun k=>[cZ k]) bx)):Rd h fz σ (.sl id 0 l.length l.length 1 ex) (dL l):=by
 refine .frz hf hg (by rw[ac];simp) (.eqs ?_ (aZ (fun _=>rfl) _));rw[List.drop_zero,kE (by rw[ac];simp),ac]
theorem qY {id:Nat}{l:List (List Nat)}{ex bx:Bool}(hf:fz id=true) (hg:h.get id=some (.cells (l.flatMap ntC) bx)):Rd h fz σ (.sl id 0 l.length l.length 1 ex) (bk l):=by
 refine .frz hf hg (by rw[ac];simp) (.eqs ?_ (aZ bR _));rw[List.drop_zero,kE (by rw[ac];simp),ac]
end
theorem sA {cur:List Bool}{roots:List Nat}{k:Nat}(h:k<roots.length) (h2:roots[k]<cur.length):gn cur (roots.take (k+1)) 0=gn cur (roots.take k) 0++(if cur[roots[k]] then [k] else []):=by
 rw[ba h,oU,List.length_take,Nat.min_eq_left (by omega)];simp only[gn,aX h2,Nat.zero_add]
set_option maxHeartbeats 4000000 in
theorem aut_c {n e:Nat}{back:Bool}{next:List (List Nat)}{hits:List Bool}{roots:List Nat}{R M:List (List Nat)}{F:Nat}(hn:n<=1000) (hx:next.length<=100000) (hh:hits.length=next.length) (hro:roots.length<=100000)
  (hr:∀ r∈next,r.length=n∧∀ x∈r,x<next.length) (hrt:∀ x∈roots,x<next.length) (h:jo n next roots F 0 [hits] [] []=some (R,M)) :
  Pu Tryz.prog 98 [.iptr (CA n e back next hits roots)] (.tup [.agg [bk R,bk M],boo true]):=by
 refine Pu.of_v aA T0 Tryz.func98 rfl rfl (by simp[aJ,aB,bZ,bR,aS]) ?_
 repeat' ((conv=>whnf)<;>(first|refine sg ?_|exact kQ|(refine Br.mk ?_ ?_<;>intro _<;>try(exfalso;omega))|refine stq ?_|refine Cll.emb (r6 (ss:=[]) (s:=hits) (by omega) (by simp) (by simp)) [(0,3),(1,2),(2,5)] [] (i64 (0:Int)) [(3,.cells [.map 2] true),(2,.map (pos (kV [hits]) 0)),(5,.cells [.sl 38 0 1 1 1 false] true),(38,.cells [bS hits] false)] [(0,.cells [aT,aT] true)] rfl (by(repeat(first|exact Rds.nil|refine Rds.cons (by first|exact Rd.same (aS _)|exact rdA|fail) ?_|fail));(first|done|fail)) (by(repeat(first|exact Bxs.nil|refine Bxs.cons rfl rfl rfl (by first|exact Rb.map (Res.same (aa _ _))|exact Rb.cells (Rds.same (mG (aS _))) rfl|exact rbB|exact Rb.cells (by(repeat(first|exact Rds.nil|refine Rds.cons (by first|exact Rd.same (aS _)|exact rdA|fail) ?_|fail));(first|done|fail)) rfl|exact rbC|fail) ?_|fail));(first|done|fail)) (by first|exact Rd.same (aS _)|exact rdA|fail) (by(repeat(first|exact Bxs.nil|refine Bxs.cons rfl rfl rfl (by first|exact Rb.map (Res.same (aa _ _))|exact Rb.cells (Rds.same (mG (aS _))) rfl|exact rbB|exact Rb.cells (by(repeat(first|exact Rds.nil|refine Rds.cons (by first|exact Rd.same (aS _)|exact rdA|fail) ?_|fail));(first|done|fail)) rfl|exact rbC|fail) ?_|fail));(first|done|fail)) (by(repeat(first|exact aj.nil|refine aj.cons rfl rfl rfl ?_|fail));(first|done|fail)) ?_|fail))
 refine aU.by aA T0 (fun a:ASt=>⟨tmp 119 (auT n e back next hits roots a.i []),⟨8,auH a.ss a.rows a.marks⟩⟩)
  (fun a=>jo n next roots a.f a.i a.ss a.rows a.marks=some (R,M)∧a.ss≠[]∧a.ss.length<=400∧(∀ s∈a.ss,s.length=next.length)∧a.i<=a.ss.length∧a.rows.length=a.i∧a.marks.length=a.i) (fun a=>a.f) ⟨F,0,[hits],[],[]⟩ ⟨h,by simp,by simp,by simp[hh],by simp,rfl,rfl⟩ ?_ ?_
 ·exact Lf.of2 [(0,_),(1,_),(2,_),(3,_),(4,_),(5,_)] [] (by repeat(first|exact aM.nil|refine aM.cons rfl (by first|exact Rd.same (aY _ _ _ _ _ _)|exact Rd.fn Rds.nil (Rds.cons (Rd.ptr rfl) (Rds.cons (Rd.ptr rfl) Rds.nil))|exact rdA|fail) ?_)) (by repeat(first|exact Bxs.nil|refine Bxs.cons rfl rfl rfl (by first|exact Rb.cells (Rds.same (mG (aS _))) rfl|exact rbB|exact Rb.cells (by(repeat(first|exact Rds.nil|refine Rds.cons (by first|exact Rd.same (aY _ _ _ _ _ _)|exact Rd.fn Rds.nil (Rds.cons (Rd.ptr rfl) (Rds.cons (Rd.ptr rfl) Rds.nil))|exact rdA|fail) ?_|fail));(first|done|fail)) rfl|exact rbC|fail) ?_)) rfl rfl
 clear h;intro⟨f,i,ss,rows,marks⟩ ⟨h1,hne,hss,hsl,hi,hrw,hmk⟩;dsimp only at h1 hne hss hsl hi hrw hmk ⊢;cases f with
 | zero=>simp[jo] at h1
 | succ f=>
 by_cases hlt:i<ss.length
 ·have hcur:ss[i]?=some ss[i]:=List.getElem?_eq_getElem hlt;generalize hgc:ss[i]=cur at hcur;simp only[jo,hcur] at h1;have hcl:cur.length=next.length:=by rw[<-hgc];exact hsl _ (kM hlt)
  clear hgc;cases hrow:jF next cur n 0 ss [] with
  | none=>simp[hrow] at h1
  | some p=>
  obtain⟨row',ss'⟩:=p;simp only[hrow] at h1;cases rows with
  | nil=>
   obtain rfl:marks=[]:=List.eq_nil_of_length_eq_zero (l:=marks) (by simp at hrw;omega);repeat' ((conv=>whnf)<;>(first|refine sg ?_|exact kQ|(refine Br.mk ?_ ?_<;>intro _<;>try(exfalso;omega))|refine stq ?_|fail))
   refine aU.by3 aA T0 (fun(c:Nat) (ss:List (List Bool)) (row:List Nat)=>⟨tmp 119 (auT n e back next hits roots i [(9,.sl 8 0 n n 1 true),(39,i64 n),(40,i64 (c:Int))]),⟨9,(8,j3 n row)::auH ss [] []⟩⟩)
    (fun c ss row=>jF next cur (n-c) c ss row=some (row',ss')∧c<=n∧row.length=c∧ss≠[]∧ss.length<=400∧(∀ s∈ss,s.length=next.length)∧ss[i]?=some cur) (fun c _ _=>n-c) 0 ss [] ⟨hrow,by omega,rfl,hne,hss,hsl,hcur⟩ ?_ ?_
   ·exact Lf.of2 [(0,_),(1,_),(2,_),(3,_),(4,_),(5,_),(8,_)] [] (by repeat(first|exact aM.nil|refine aM.cons rfl (by first|exact Rd.same (aY _ _ _ _ _ _)|exact Rd.fn Rds.nil (Rds.cons (Rd.ptr rfl) (Rds.cons (Rd.ptr rfl) Rds.nil))|exact rdA|fail) ?_)) (by repeat(first|exact Bxs.nil|refine Bxs.cons rfl rfl rfl (by first|exact Rb.cells (Rds.eqs (bE (by omega) (fun i _=>by simp)) (aW (fun _=>rfl))) rfl|exact rbB|exact Rb.cells (by(repeat(first|exact Rds.nil|refine Rds.cons (by first|exact Rd.same (aY _ _ _ _ _ _)|exact Rd.fn Rds.nil (Rds.cons (Rd.ptr rfl) (Rds.cons (Rd.ptr rfl) Rds.nil))|exact rdA|fail) ?_|fail));(first|done|fail)) rfl|exact rbC|fail) ?_)) rfl rfl
   clear hrow hss hsl hcur hne hi hlt;intro c ss row ⟨hrow,hcn,hrl,hne,hss,hsl,hcur⟩;have hgi:(ss.flatMap nP)[i]?=some (bS cur):=by rw[ac];simp[hcur]
   have hil:i<ss.length:=(List.getElem?_eq_some_iff.1 hcur).1;by_cases hc:c<n
   ·repeat' ((conv=>whnf)<;>(first|refine sg ?_|exact kQ|(refine Br.mk ?_ ?_<;>intro _<;>try(exfalso;omega))|refine stq ?_|fail))
    refine aU.by aA T0 (fun k:Nat=>⟨tmp 119 (auT n e back next hits roots i [(9,.sl 8 0 n n 1 true),(10,i64 (c:Int)),(11,.sl 9 0 next.length next.length 1 true),(39,i64 n),(40,i64 (c:Int)),(52,bk next),(53,i64 next.length),(54,i64 (k:Int))]),⟨10,(9,D7 next.length k (nxB next cur c))::(8,j3 n row)::auH ss [] []⟩⟩)
     (fun k=>k<=next.length) (fun k=>next.length-k) 0 (by omega) ?_ ?_
    ·exact Lf.of2 [(0,_),(1,_),(2,_),(3,_),(4,_),(5,_),(8,_),(9,_)] [] (by repeat(first|exact aM.nil|refine aM.cons rfl (by first|exact Rd.same (aY _ _ _ _ _ _)|exact Rd.fn Rds.nil (Rds.cons (Rd.ptr rfl) (Rds.cons (Rd.ptr rfl) Rds.nil))|exact rdA|fail) ?_)) (by repeat(first|exact Bxs.nil|refine Bxs.cons rfl rfl rfl (by first|exact Rb.cells (Rds.eqs (bE (by omega) (fun i _=>by simp)) (aW (fun _=>rfl))) rfl|exact Rb.cells (Rds.same (aW (fun _=>rfl))) rfl|exact rbB|exact Rb.cells (by(repeat(first|exact Rds.nil|refine Rds.cons (by first|exact Rd.same (aY _ _ _ _ _ _)|exact Rd.fn Rds.nil (Rds.cons (Rd.ptr rfl) (Rds.cons (Rd.ptr rfl) Rds.nil))|exact rdA|fail) ?_|fail));(first|done|fail)) rfl|exact rbC|fail) ?_)) rfl rfl
    intro k hk;by_cases hk2:k<next.length
    ·have hrk:=hr _ (kM hk2);have hck:c<next[k].length:=by omega
     have hx2:next[k][c]<cur.length:=by rw[hcl];exact hrk.2 _ (kM hck)
     have hg:=yh hk2 hck hx2;repeat' ((conv=>whnf)<;>(first|refine sg ?_|exact kQ|(refine Br.mk ?_ ?_<;>intro _<;>try(exfalso;omega))|refine stq ?_|refine bJ.by (id:=17) aA T0 [0,0,0,0,12,28,0,0,192,448,1020,2044,4095,8191] (by kernel_rfl) ?_|refine Get.one hgi ?_|refine Put.one (by simp;omega) ?_|fail))
     all_goals(conv=>whnf)
     refine⟨k+1,by omega,by omega,?_⟩;exact Lf.of2 [(0,_),(1,_),(2,_),(3,_),(4,_),(5,_),(8,_),(9,_)] [] (by repeat(first|exact aM.nil|refine aM.cons rfl (by first|exact Rd.same (aY _ _ _ _ _ _)|exact Rd.fn Rds.nil (Rds.cons (Rd.ptr rfl) (Rds.cons (Rd.ptr rfl) Rds.nil))|exact rdA|fail) ?_)) (by repeat(first|exact Bxs.nil|refine Bxs.cons rfl rfl rfl (by first|exact Rb.cells (Rds.eqs (bq (by rw[hg];simp) (fun i _ hi=>by simp only[show(decide (i<k+1))=(decide (i<k)) from by rw[decide_eq_decide];omega])) (aW (fun _=>rfl))) rfl|exact Rb.cells (Rds.same (aW (fun _=>rfl))) rfl|exact rbB|exact Rb.cells (by(repeat(first|exact Rds.nil|refine Rds.cons (by first|exact Rd.same (aY _ _ _ _ _ _)|exact Rd.fn Rds.nil (Rds.cons (Rd.ptr rfl) (Rds.cons (Rd.ptr rfl) Rds.nil))|exact rdA|fail) ?_|fail));(first|done|fail)) rfl|exact rbC|fail) ?_)) rfl rfl
    ·have hfin:(ao next.length fun j=>boo (decide (j<k)&&(nxB next cur c).getD j false))=(nxB next cur c).map boo:=by
      have e:next.length=(nxB next cur c).length:=by simp
      rw[e];exact c7 fun j hj=>by rw[aX hj,decide_eq_true (by simp at hj;omega),Bool.true_and]
     have hfz:∀ {fz:Nat->Bool} {σ:Nat->Option Nat} {h:aC},fz 9=true->h.get 9=some (D7 next.length k (nxB next cur c))->Rd h fz σ (.sl 9 0 next.length next.length 1 true) (bS (nxB next cur c)):=fun h1 h2=>by
      have e:(nxB next cur c).length=next.length:=by simp
      unfold bS lst;rw[e];exact .frz h1 h2 (by simp) (.eqs (by rw[hfin,List.drop_zero,kE (by simp)]) (aZ (fun _=>rfl) _))
     have hnc:n-c=(n-(c+1))+1:=by omega
     rw[hnc] at hrow;by_cases hs:nxB next cur c∈ss
     ·simp only[jF,hs,if_true] at hrow;repeat' ((conv=>whnf)<;>(first|refine sg ?_|exact kQ|(refine Br.mk ?_ ?_<;>intro _<;>try(exfalso;omega))|refine stq ?_|refine Cll.emb (vH (s:=nxB next cur c) (by simp;omega) hs) [(0,1),(1,2),(2,3),(3,4)] [9] (i64 (ss.idxOf (nxB next cur c):Int)) [(1,.cells [.map 2] true),(2,.map (pos (kV ss) 0)),(3,.cells [.sl 4 0 ss.length ss.length 1 false] true),(4,.cells (ss.flatMap nP) false)] [(0,.cells [aT,aT] true),(8,j3 n row),(5,.cells [ai 6 1 [],ai 7 1 []] true)] rfl (by(repeat(first|exact Rds.nil|refine Rds.cons (by first|exact hfz rfl rfl|exact rdA|fail) ?_|fail));(first|done|fail)) (by(repeat(first|exact Bxs.nil|refine Bxs.cons rfl rfl rfl (by first|exact Rb.map (Res.same (aa _ _))|exact rbB|exact Rb.cells (by(repeat(first|exact Rds.nil|refine Rds.cons (by first|exact hfz rfl rfl|exact rdA|fail) ?_|fail));(first|done|fail)) rfl|exact rbC|fail) ?_|fail));(first|done|fail)) (by first|exact hfz rfl rfl|exact rdA|fail) (by(repeat(first|exact Bxs.nil|refine Bxs.cons rfl rfl rfl (by first|exact Rb.map (Res.same (aa _ _))|exact rbB|exact Rb.cells (by(repeat(first|exact Rds.nil|refine Rds.cons (by first|exact hfz rfl rfl|exact rdA|fail) ?_|fail));(first|done|fail)) rfl|exact rbC|fail) ?_|fail));(first|done|fail)) (by(repeat(first|exact aj.nil|refine aj.cons rfl rfl rfl ?_|fail));(first|done|fail)) ?_|refine Put.one (by simp;omega) ?_|fail))
      all_goals(conv=>whnf)
      refine⟨c+1,ss,row++[ss.idxOf (nxB next cur c)],⟨hrow,by omega,by simp[hrl],hne,hss,hsl,hcur⟩,by omega,?_⟩;exact Lf.of2 [(0,_),(1,_),(2,_),(3,_),(4,_),(5,_),(8,_)] [] (by repeat(first|exact aM.nil|refine aM.cons rfl (by first|exact Rd.same (aY _ _ _ _ _ _)|exact Rd.fn Rds.nil (Rds.cons (Rd.ptr rfl) (Rds.cons (Rd.ptr rfl) Rds.nil))|exact rdA|fail) ?_)) (by repeat(first|exact Bxs.nil|refine Bxs.cons rfl rfl rfl (by first|exact Rb.cells (Rds.eqs (gu hrl) (aW (fun _=>rfl))) rfl|exact rbB|exact Rb.cells (by(repeat(first|exact Rds.nil|refine Rds.cons (by first|exact Rd.same (aY _ _ _ _ _ _)|exact Rd.fn Rds.nil (Rds.cons (Rd.ptr rfl) (Rds.cons (Rd.ptr rfl) Rds.nil))|exact rdA|fail) ?_|fail));(first|done|fail)) rfl|exact rbC|fail) ?_)) rfl rfl
     ·by_cases hs4:ss.length<400
      ·simp only[jF,hs,if_false,hs4,if_true] at hrow;have hsl2:(ss++[nxB next cur c]).length=ss.length+1:=by simp
       repeat' ((conv=>whnf)<;>(first|refine sg ?_|exact kQ|(refine Br.mk ?_ ?_<;>intro _<;>try(exfalso;omega))|refine stq ?_|refine Cll.emb (vI (s:=nxB next cur c) (by simp;omega) hne hs (by omega)) [(0,1),(1,2),(2,3),(3,4)] [9] (i64 (ss.length:Int)) [(1,.cells [.map 2] true),(2,.map (pos (kV (ss++[nxB next cur c])) 0)),(3,.cells [.sl 40 0 (ss++[nxB next cur c]).length (ss++[nxB next cur c]).length 1 false] true),(40,.cells ((ss++[nxB next cur c]).flatMap nP) false)] [(0,.cells [aT,aT] true),(8,j3 n row),(5,.cells [ai 6 1 [],ai 7 1 []] true)] rfl (by(repeat(first|exact Rds.nil|refine Rds.cons (by first|exact hfz rfl rfl|exact rdA|fail) ?_|fail));(first|done|fail)) (by(repeat(first|exact Bxs.nil|refine Bxs.cons rfl rfl rfl (by first|exact Rb.map (Res.same (aa _ _))|exact rbB|exact Rb.cells (by(repeat(first|exact Rds.nil|refine Rds.cons (by first|exact hfz rfl rfl|exact rdA|fail) ?_|fail));(first|done|fail)) rfl|exact rbC|fail) ?_|fail));(first|done|fail)) (by first|exact hfz rfl rfl|exact rdA|fail) (by(repeat(first|exact Bxs.nil|refine Bxs.cons rfl rfl rfl (by first|exact Rb.map (Res.same (aa _ _))|exact rbB|exact Rb.cells (by(repeat(first|exact Rds.nil|refine Rds.cons (by first|exact hfz rfl rfl|exact rdA|fail) ?_|fail));(first|done|fail)) rfl|exact rbC|fail) ?_|fail));(first|done|fail)) (by(repeat(first|exact aj.nil|refine aj.cons rfl rfl rfl ?_|fail));(first|done|fail)) ?_|refine Put.one (by simp;omega) ?_|fail))
       all_goals(conv=>whnf)
       refine⟨c+1,ss++[nxB next cur c],row++[ss.length],⟨hrow,by omega,by simp[hrl],by simp,by simp;omega,fun s hs=>?_,by rw[List.getElem?_append_left hil];exact hcur⟩,by omega,?_⟩
       ·rcases List.mem_append.1 hs with hs|hs
        ·exact hsl s hs
        ·simp at hs;subst hs;simp
       exact Lf.of2 [(0,_),(1,_),(2,_),(3,_),(4,_),(5,_),(8,_)] [] (by repeat(first|exact aM.nil|refine aM.cons rfl (by first|exact Rd.same (aY _ _ _ _ _ _)|exact Rd.fn Rds.nil (Rds.cons (Rd.ptr rfl) (Rds.cons (Rd.ptr rfl) Rds.nil))|exact rdA|fail) ?_)) (by repeat(first|exact Bxs.nil|refine Bxs.cons rfl rfl rfl (by first|exact Rb.cells (Rds.eqs (gu hrl) (aW (fun _=>rfl))) rfl|exact rbB|exact Rb.cells (by(repeat(first|exact Rds.nil|refine Rds.cons (by first|exact Rd.same (aY _ _ _ _ _ _)|exact Rd.fn Rds.nil (Rds.cons (Rd.ptr rfl) (Rds.cons (Rd.ptr rfl) Rds.nil))|exact rdA|fail) ?_|fail));(first|done|fail)) rfl|exact rbC|fail) ?_)) rfl rfl
      ·simp only[jF,hs,if_false,hs4] at hrow;cases hrow
   ·rw[show n-c=0 from by omega] at hrow;simp only[jF,kA,kB] at hrow;obtain⟨rfl,rfl⟩:=hrow;obtain rfl:c=n:=by omega
    repeat' ((conv=>whnf)<;>(first|refine sg ?_|exact kQ|(refine Br.mk ?_ ?_<;>intro _<;>try(exfalso;omega))|refine stq ?_|fail))
    refine aU.by2 aA T0 (fun(k:Nat) (mk:List Nat)=>⟨tmp 119 (auT c e back next hits roots i [(9,.sl 8 0 c c 1 true),(14,ai 9 1 mk),(87,dL roots),(88,i64 roots.length),(89,i64 (k:Int))]),⟨10,cW 9 (fun k=>[cZ k]) mk++((8,j3 c row)::auH ss [] [])⟩⟩)
     (fun k mk=>k<=roots.length∧mk=gn cur (roots.take k) 0) (fun k _=>roots.length-k) 0 [] ⟨by omega,by simp[gn]⟩ ?_ ?_
    ·exact Lf.of2 [(0,_),(1,_),(2,_),(3,_),(4,_),(5,_),(8,_)] [] (by repeat(first|exact aM.nil|refine aM.cons rfl (by first|exact Rd.same (aY _ _ _ _ _ _)|exact Rd.fn Rds.nil (Rds.cons (Rd.ptr rfl) (Rds.cons (Rd.ptr rfl) Rds.nil))|exact rdA|fail) ?_)) (by repeat(first|exact Bxs.nil|refine Bxs.cons rfl rfl rfl (by first|exact Rb.cells (Rds.same (aW (fun _=>rfl))) rfl|exact rbB|exact Rb.cells (by(repeat(first|exact Rds.nil|refine Rds.cons (by first|exact Rd.same (aY _ _ _ _ _ _)|exact Rd.fn Rds.nil (Rds.cons (Rd.ptr rfl) (Rds.cons (Rd.ptr rfl) Rds.nil))|exact rdA|fail) ?_|fail));(first|done|fail)) rfl|exact rbC|fail) ?_)) rfl rfl
    intro k mk ⟨hk,hmk1⟩;have hmkl:mk.length<=roots.length:=by rw[hmk1];exact Nat.le_trans (qN _ _) (by simp;omega)
    by_cases hk2:k<roots.length
    ·have hrk:=hrt _ (kM hk2);rw[<-hcl] at hrk;have hsu:=sA hk2 hrk;rw[<-hmk1] at hsu;cases hb:cur[roots[k]] with
     | true=>
      rw[hb] at hsu;cases mk with
      | nil=>
       repeat' ((conv=>whnf)<;>(first|refine Idx.atE (d:=boo true) roots[k] rfl hrk (by rw[hb]) ?_|refine sg ?_|exact kQ|(refine Br.mk ?_ ?_<;>intro _<;>try(exfalso;omega))|refine stq ?_|refine Get.one hgi ?_|fail))
       all_goals(conv=>whnf)
       refine⟨k+1,[k],⟨by omega,by rw[hsu];rfl⟩,by omega,?_⟩;exact Lf.of2 [(0,_),(1,_),(2,_),(3,_),(4,_),(5,_),(8,_),(9,_)] [] (by repeat(first|exact aM.nil|refine aM.cons rfl (by first|exact Rd.same (aY _ _ _ _ _ _)|exact Rd.fn Rds.nil (Rds.cons (Rd.ptr rfl) (Rds.cons (Rd.ptr rfl) Rds.nil))|exact rdA|fail) ?_)) (by repeat(first|exact Bxs.nil|refine Bxs.cons rfl rfl rfl (by first|exact Rb.cells (Rds.same (aW (fun _=>rfl))) rfl|exact rbB|exact Rb.cells (by(repeat(first|exact Rds.nil|refine Rds.cons (by first|exact Rd.same (aY _ _ _ _ _ _)|exact Rd.fn Rds.nil (Rds.cons (Rd.ptr rfl) (Rds.cons (Rd.ptr rfl) Rds.nil))|exact rdA|fail) ?_|fail));(first|done|fail)) rfl|exact rbC|fail) ?_)) rfl rfl
      | cons y ys=>
       have hy2:(y::ys).length=ys.length+1:=rfl;repeat' ((conv=>whnf)<;>(first|refine Idx.atE (d:=boo true) roots[k] rfl hrk (by rw[hb]) ?_|refine sg ?_|exact kQ|(refine Br.mk ?_ ?_<;>intro _<;>try(exfalso;omega))|refine stq ?_|refine Get.one hgi ?_|fail))
       all_goals(conv=>whnf)
       refine⟨k+1,(y::ys)++[k],⟨by omega,by rw[hsu];rfl⟩,by omega,?_⟩;exact Lf.of2 [(0,_),(1,_),(2,_),(3,_),(4,_),(5,_),(8,_),(9,_)] [] (by repeat(first|exact aM.nil|refine aM.cons rfl (by first|exact Rd.same (aY _ _ _ _ _ _)|exact Rd.fn Rds.nil (Rds.cons (Rd.ptr rfl) (Rds.cons (Rd.ptr rfl) Rds.nil))|exact Rd.own (l:=(y::ys)++[k]) (by simp) rfl (by simp) (by simp)|exact rdA|fail) ?_)) (by repeat(first|exact Bxs.nil|refine Bxs.cons rfl rfl rfl (by first|exact Rb.cells (Rds.same (aW (fun _=>rfl))) rfl|exact Rb.cells (Rds.eqs (ak (c:=fun k=>[cZ k]) (by intro _;rfl) (y::ys) _) (aD (by intro _;rfl) _)) rfl|exact rbB|exact Rb.cells (by(repeat(first|exact Rds.nil|refine Rds.cons (by first|exact Rd.same (aY _ _ _ _ _ _)|exact Rd.fn Rds.nil (Rds.cons (Rd.ptr rfl) (Rds.cons (Rd.ptr rfl) Rds.nil))|exact Rd.own (l:=(y::ys)++[k]) (by simp) rfl (by simp) (by simp)|exact rdA|fail) ?_|fail));(first|done|fail)) rfl|exact rbC|fail) ?_)) rfl rfl
     | false=>
      rw[hb] at hsu;cases mk with
      | nil=>
       repeat' ((conv=>whnf)<;>(first|refine Idx.atE (d:=boo false) roots[k] rfl hrk (by rw[hb]) ?_|refine sg ?_|exact kQ|(refine Br.mk ?_ ?_<;>intro _<;>try(exfalso;omega))|refine stq ?_|refine Get.one hgi ?_|fail))
       all_goals(conv=>whnf)
       refine⟨k+1,[],⟨by omega,by rw[hsu];rfl⟩,by omega,?_⟩;exact Lf.of2 [(0,_),(1,_),(2,_),(3,_),(4,_),(5,_),(8,_)] [] (by repeat(first|exact aM.nil|refine aM.cons rfl (by first|exact Rd.same (aY _ _ _ _ _ _)|exact Rd.fn Rds.nil (Rds.cons (Rd.ptr rfl) (Rds.cons (Rd.ptr rfl) Rds.nil))|exact rdA|fail) ?_)) (by repeat(first|exact Bxs.nil|refine Bxs.cons rfl rfl rfl (by first|exact Rb.cells (Rds.same (aW (fun _=>rfl))) rfl|exact rbB|exact Rb.cells (by(repeat(first|exact Rds.nil|refine Rds.cons (by first|exact Rd.same (aY _ _ _ _ _ _)|exact Rd.fn Rds.nil (Rds.cons (Rd.ptr rfl) (Rds.cons (Rd.ptr rfl) Rds.nil))|exact rdA|fail) ?_|fail));(first|done|fail)) rfl|exact rbC|fail) ?_)) rfl rfl
      | cons y ys=>
       repeat' ((conv=>whnf)<;>(first|refine Idx.atE (d:=boo false) roots[k] rfl hrk (by rw[hb]) ?_|refine sg ?_|exact kQ|(refine Br.mk ?_ ?_<;>intro _<;>try(exfalso;omega))|refine stq ?_|refine Get.one hgi ?_|fail))
       all_goals(conv=>whnf)
       refine⟨k+1,y::ys,⟨by omega,by rw[hsu];simp⟩,by omega,?_⟩;exact Lf.of2 [(0,_),(1,_),(2,_),(3,_),(4,_),(5,_),(8,_),(9,_)] [] (by repeat(first|exact aM.nil|refine aM.cons rfl (by first|exact Rd.same (aY _ _ _ _ _ _)|exact Rd.fn Rds.nil (Rds.cons (Rd.ptr rfl) (Rds.cons (Rd.ptr rfl) Rds.nil))|exact rdA|fail) ?_)) (by repeat(first|exact Bxs.nil|refine Bxs.cons rfl rfl rfl (by first|exact Rb.cells (Rds.same (aW (fun _=>rfl))) rfl|exact rbB|exact Rb.cells (by(repeat(first|exact Rds.nil|refine Rds.cons (by first|exact Rd.same (aY _ _ _ _ _ _)|exact Rd.fn Rds.nil (Rds.cons (Rd.ptr rfl) (Rds.cons (Rd.ptr rfl) Rds.nil))|exact rdA|fail) ?_|fail));(first|done|fail)) rfl|exact rbC|fail) ?_)) rfl rfl
    ·have hmk2:mk=gn cur roots 0:=by rw[hmk1,kE (by omega)]
     cases mk with
     | nil=>
      repeat' ((conv=>whnf)<;>(first|refine sg ?_|exact kQ|(refine Br.mk ?_ ?_<;>intro _<;>try(exfalso;omega))|refine stq ?_|fail))
      all_goals(conv=>whnf)
      refine⟨⟨f,i+1,ss,[]++[row],[]++[[]]⟩,⟨by rw[hmk2];exact h1,hne,hss,hsl,by dsimp only;have:=(List.getElem?_eq_some_iff.1 hcur).1;omega,by dsimp only;rw[kG,hrw];rfl,by dsimp only;rw[kG,hmk];rfl⟩,by dsimp only;omega,?_⟩;exact Lf.of2 [(0,_),(1,_),(2,_),(3,_),(4,_),(5,_),(6,_),(7,_)] [8,9] (by repeat(first|exact aM.nil|refine aM.cons rfl (by first|exact Rd.same (aY _ _ _ _ _ _)|exact Rd.fn Rds.nil (Rds.cons (Rd.ptr rfl) (Rds.cons (Rd.ptr rfl) Rds.nil))|exact Rd.own (l:=[]++[row]) (by simp) rfl (by simp) (by simp)|exact Rd.own (l:=[]++[[]]) (by simp) rfl (by simp) (by simp)|exact rdA|fail) ?_)) (by repeat(first|exact Bxs.nil|refine Bxs.cons rfl rfl rfl (by first|exact Rb.cells (Rds.cons (lH rfl rfl hrl) Rds.nil) rfl|exact Rb.cells (Rds.cons (nE (l:=y::ys) rfl rfl) Rds.nil) rfl|exact Rb.cells (Rds.cons Rd.nil Rds.nil) rfl|exact rbB|exact Rb.cells (by(repeat(first|exact Rds.nil|refine Rds.cons (by first|exact Rd.same (aY _ _ _ _ _ _)|exact Rd.fn Rds.nil (Rds.cons (Rd.ptr rfl) (Rds.cons (Rd.ptr rfl) Rds.nil))|exact Rd.own (l:=[]++[row]) (by simp) rfl (by simp) (by simp)|exact Rd.own (l:=[]++[[]]) (by simp) rfl (by simp) (by simp)|exact rdA|fail) ?_|fail));(first|done|fail)) rfl|exact rbC|fail) ?_)) rfl rfl
     | cons y ys=>
      repeat' ((conv=>whnf)<;>(first|refine sg ?_|exact kQ|(refine Br.mk ?_ ?_<;>intro _<;>try(exfalso;omega))|refine stq ?_|fail))
      all_goals(conv=>whnf)
      refine⟨⟨f,i+1,ss,[]++[row],[]++[(y::ys)]⟩,⟨by rw[hmk2];exact h1,hne,hss,hsl,by dsimp only;have:=(List.getElem?_eq_some_iff.1 hcur).1;omega,by dsimp only;rw[kG,hrw];rfl,by dsimp only;rw[kG,hmk];rfl⟩,by dsimp only;omega,?_⟩;exact Lf.of2 [(0,_),(1,_),(2,_),(3,_),(4,_),(5,_),(6,_),(7,_)] [8,9] (by repeat(first|exact aM.nil|refine aM.cons rfl (by first|exact Rd.same (aY _ _ _ _ _ _)|exact Rd.fn Rds.nil (Rds.cons (Rd.ptr rfl) (Rds.cons (Rd.ptr rfl) Rds.nil))|exact Rd.own (l:=[]++[row]) (by simp) rfl (by simp) (by simp)|exact Rd.own (l:=[]++[(y::ys)]) (by simp) rfl (by simp) (by simp)|exact rdA|fail) ?_)) (by repeat(first|exact Bxs.nil|refine Bxs.cons rfl rfl rfl (by first|exact Rb.cells (Rds.cons (lH rfl rfl hrl) Rds.nil) rfl|exact Rb.cells (Rds.cons (nE (l:=y::ys) rfl rfl) Rds.nil) rfl|exact Rb.cells (Rds.cons Rd.nil Rds.nil) rfl|exact rbB|exact Rb.cells (by(repeat(first|exact Rds.nil|refine Rds.cons (by first|exact Rd.same (aY _ _ _ _ _ _)|exact Rd.fn Rds.nil (Rds.cons (Rd.ptr rfl) (Rds.cons (Rd.ptr rfl) Rds.nil))|exact Rd.own (l:=[]++[row]) (by simp) rfl (by simp) (by simp)|exact Rd.own (l:=[]++[(y::ys)]) (by simp) rfl (by simp) (by simp)|exact rdA|fail) ?_|fail));(first|done|fail)) rfl|exact rbC|fail) ?_)) rfl rfl
  | cons r rs=>
   obtain⟨m,ms,rfl⟩:=kI (show 0<marks.length by simp at hrw;omega);repeat' ((conv=>whnf)<;>(first|refine sg ?_|exact kQ|(refine Br.mk ?_ ?_<;>intro _<;>try(exfalso;omega))|refine stq ?_|fail))
   refine aU.by3 aA T0 (fun(c:Nat) (ss:List (List Bool)) (row:List Nat)=>⟨tmp 119 (auT n e back next hits roots i [(9,.sl 8 0 n n 1 true),(39,i64 n),(40,i64 (c:Int))]),⟨9,(8,j3 n row)::auH ss (r::rs) (m::ms)⟩⟩)
    (fun c ss row=>jF next cur (n-c) c ss row=some (row',ss')∧c<=n∧row.length=c∧ss≠[]∧ss.length<=400∧(∀ s∈ss,s.length=next.length)∧ss[i]?=some cur) (fun c _ _=>n-c) 0 ss [] ⟨hrow,by omega,rfl,hne,hss,hsl,hcur⟩ ?_ ?_
   ·exact Lf.of2 [(0,_),(1,_),(2,_),(3,_),(4,_),(5,_),(6,_),(7,_),(8,_)] [] (by repeat(first|exact aM.nil|refine aM.cons rfl (by first|exact Rd.same (aY _ _ _ _ _ _)|exact Rd.fn Rds.nil (Rds.cons (Rd.ptr rfl) (Rds.cons (Rd.ptr rfl) Rds.nil))|exact rdA|fail) ?_)) (by repeat(first|exact Bxs.nil|refine Bxs.cons rfl rfl rfl (by first|exact Rb.cells (Rds.eqs (bE (by omega) (fun i _=>by simp)) (aW (fun _=>rfl))) rfl|exact rbB|exact Rb.cells (by(repeat(first|exact Rds.nil|refine Rds.cons (by first|exact Rd.same (aY _ _ _ _ _ _)|exact Rd.fn Rds.nil (Rds.cons (Rd.ptr rfl) (Rds.cons (Rd.ptr rfl) Rds.nil))|exact rdA|fail) ?_|fail));(first|done|fail)) rfl|exact rbC|fail) ?_)) rfl rfl
   clear hrow hss hsl hcur hne hi hlt;intro c ss row ⟨hrow,hcn,hrl,hne,hss,hsl,hcur⟩;have hgi:(ss.flatMap nP)[i]?=some (bS cur):=by rw[ac];simp[hcur]
   have hil:i<ss.length:=(List.getElem?_eq_some_iff.1 hcur).1;by_cases hc:c<n
   ·repeat' ((conv=>whnf)<;>(first|refine sg ?_|exact kQ|(refine Br.mk ?_ ?_<;>intro _<;>try(exfalso;omega))|refine stq ?_|fail))
    refine aU.by aA T0 (fun k:Nat=>⟨tmp 119 (auT n e back next hits roots i [(9,.sl 8 0 n n 1 true),(10,i64 (c:Int)),(11,.sl 9 0 next.length next.length 1 true),(39,i64 n),(40,i64 (c:Int)),(52,bk next),(53,i64 next.length),(54,i64 (k:Int))]),⟨10,(9,D7 next.length k (nxB next cur c))::(8,j3 n row)::auH ss (r::rs) (m::ms)⟩⟩)
     (fun k=>k<=next.length) (fun k=>next.length-k) 0 (by omega) ?_ ?_
    ·exact Lf.of2 [(0,_),(1,_),(2,_),(3,_),(4,_),(5,_),(6,_),(7,_),(8,_),(9,_)] [] (by repeat(first|exact aM.nil|refine aM.cons rfl (by first|exact Rd.same (aY _ _ _ _ _ _)|exact Rd.fn Rds.nil (Rds.cons (Rd.ptr rfl) (Rds.cons (Rd.ptr rfl) Rds.nil))|exact rdA|fail) ?_)) (by repeat(first|exact Bxs.nil|refine Bxs.cons rfl rfl rfl (by first|exact Rb.cells (Rds.eqs (bE (by omega) (fun i _=>by simp)) (aW (fun _=>rfl))) rfl|exact Rb.cells (Rds.same (aW (fun _=>rfl))) rfl|exact rbB|exact Rb.cells (by(repeat(first|exact Rds.nil|refine Rds.cons (by first|exact Rd.same (aY _ _ _ _ _ _)|exact Rd.fn Rds.nil (Rds.cons (Rd.ptr rfl) (Rds.cons (Rd.ptr rfl) Rds.nil))|exact rdA|fail) ?_|fail));(first|done|fail)) rfl|exact rbC|fail) ?_)) rfl rfl
    intro k hk;by_cases hk2:k<next.length
    ·have hrk:=hr _ (kM hk2);have hck:c<next[k].length:=by omega
     have hx2:next[k][c]<cur.length:=by rw[hcl];exact hrk.2 _ (kM hck)
     have hg:=yh hk2 hck hx2;repeat' ((conv=>whnf)<;>(first|refine sg ?_|exact kQ|(refine Br.mk ?_ ?_<;>intro _<;>try(exfalso;omega))|refine stq ?_|refine bJ.by (id:=17) aA T0 [0,0,0,0,12,28,0,0,192,448,1020,2044,4095,8191] (by kernel_rfl) ?_|refine Get.one hgi ?_|refine Put.one (by simp;omega) ?_|fail))
     all_goals(conv=>whnf)
     refine⟨k+1,by omega,by omega,?_⟩;exact Lf.of2 [(0,_),(1,_),(2,_),(3,_),(4,_),(5,_),(6,_),(7,_),(8,_),(9,_)] [] (by repeat(first|exact aM.nil|refine aM.cons rfl (by first|exact Rd.same (aY _ _ _ _ _ _)|exact Rd.fn Rds.nil (Rds.cons (Rd.ptr rfl) (Rds.cons (Rd.ptr rfl) Rds.nil))|exact rdA|fail) ?_)) (by repeat(first|exact Bxs.nil|refine Bxs.cons rfl rfl rfl (by first|exact Rb.cells (Rds.eqs (bq (by rw[hg];simp) (fun i _ hi=>by simp only[show(decide (i<k+1))=(decide (i<k)) from by rw[decide_eq_decide];omega])) (aW (fun _=>rfl))) rfl|exact Rb.cells (Rds.same (aW (fun _=>rfl))) rfl|exact rbB|exact Rb.cells (by(repeat(first|exact Rds.nil|refine Rds.cons (by first|exact Rd.same (aY _ _ _ _ _ _)|exact Rd.fn Rds.nil (Rds.cons (Rd.ptr rfl) (Rds.cons (Rd.ptr rfl) Rds.nil))|exact rdA|fail) ?_|fail));(first|done|fail)) rfl|exact rbC|fail) ?_)) rfl rfl
    ·have hfin:(ao next.length fun j=>boo (decide (j<k)&&(nxB next cur c).getD j false))=(nxB next cur c).map boo:=by
      have e:next.length=(nxB next cur c).length:=by simp
      rw[e];exact c7 fun j hj=>by rw[aX hj,decide_eq_true (by simp at hj;omega),Bool.true_and]
     have hfz:∀ {fz:Nat->Bool} {σ:Nat->Option Nat} {h:aC},fz 9=true->h.get 9=some (D7 next.length k (nxB next cur c))->Rd h fz σ (.sl 9 0 next.length next.length 1 true) (bS (nxB next cur c)):=fun h1 h2=>by
      have e:(nxB next cur c).length=next.length:=by simp
      unfold bS lst;rw[e];exact .frz h1 h2 (by simp) (.eqs (by rw[hfin,List.drop_zero,kE (by simp)]) (aZ (fun _=>rfl) _))
     have hnc:n-c=(n-(c+1))+1:=by omega
     rw[hnc] at hrow;by_cases hs:nxB next cur c∈ss
     ·simp only[jF,hs,if_true] at hrow
      repeat' ((conv=>whnf)<;>(first|refine sg ?_|exact kQ|(refine Br.mk ?_ ?_<;>intro _<;>try(exfalso;omega))|refine stq ?_|refine Cll.emb (vH (s:=nxB next cur c) (by simp;omega) hs) [(0,1),(1,2),(2,3),(3,4)] [9] (i64 (ss.idxOf (nxB next cur c):Int)) [(1,.cells [.map 2] true),(2,.map (pos (kV ss) 0)),(3,.cells [.sl 4 0 ss.length ss.length 1 false] true),(4,.cells (ss.flatMap nP) false)] [(0,.cells [aT,aT] true),(8,j3 n row),(5,.cells [ai 6 1 (r::rs),ai 7 1 (m::ms)] true),(6,.cells ((r::rs).flatMap ntC) false),(7,.cells ((m::ms).flatMap ntC) false)] rfl (by(repeat(first|exact Rds.nil|refine Rds.cons (by first|exact hfz rfl rfl|exact rdA|fail) ?_|fail));(first|done|fail)) (by(repeat(first|exact Bxs.nil|refine Bxs.cons rfl rfl rfl (by first|exact Rb.map (Res.same (aa _ _))|exact rbB|exact Rb.cells (by(repeat(first|exact Rds.nil|refine Rds.cons (by first|exact hfz rfl rfl|exact rdA|fail) ?_|fail));(first|done|fail)) rfl|exact rbC|fail) ?_|fail));(first|done|fail)) (by first|exact hfz rfl rfl|exact rdA|fail) (by(repeat(first|exact Bxs.nil|refine Bxs.cons rfl rfl rfl (by first|exact Rb.map (Res.same (aa _ _))|exact rbB|exact Rb.cells (by(repeat(first|exact Rds.nil|refine Rds.cons (by first|exact hfz rfl rfl|exact rdA|fail) ?_|fail));(first|done|fail)) rfl|exact rbC|fail) ?_|fail));(first|done|fail)) (by(repeat(first|exact aj.nil|refine aj.cons rfl rfl rfl ?_|fail));(first|done|fail)) ?_|refine Put.one (by simp;omega) ?_|fail))
      all_goals(conv=>whnf)
      refine⟨c+1,ss,row++[ss.idxOf (nxB next cur c)],⟨hrow,by omega,by simp[hrl],hne,hss,hsl,hcur⟩,by omega,?_⟩;exact Lf.of2 [(0,_),(1,_),(2,_),(3,_),(4,_),(5,_),(6,_),(7,_),(8,_)] [] (by repeat(first|exact aM.nil|refine aM.cons rfl (by first|exact Rd.same (aY _ _ _ _ _ _)|exact Rd.fn Rds.nil (Rds.cons (Rd.ptr rfl) (Rds.cons (Rd.ptr rfl) Rds.nil))|exact rdA|fail) ?_)) (by repeat(first|exact Bxs.nil|refine Bxs.cons rfl rfl rfl (by first|exact Rb.cells (Rds.eqs (gu hrl) (aW (fun _=>rfl))) rfl|exact rbB|exact Rb.cells (by(repeat(first|exact Rds.nil|refine Rds.cons (by first|exact Rd.same (aY _ _ _ _ _ _)|exact Rd.fn Rds.nil (Rds.cons (Rd.ptr rfl) (Rds.cons (Rd.ptr rfl) Rds.nil))|exact rdA|fail) ?_|fail));(first|done|fail)) rfl|exact rbC|fail) ?_)) rfl rfl
     ·by_cases hs4:ss.length<400
      ·simp only[jF,hs,if_false,hs4,if_true] at hrow;have hsl2:(ss++[nxB next cur c]).length=ss.length+1:=by simp
       repeat' ((conv=>whnf)<;>(first|refine sg ?_|exact kQ|(refine Br.mk ?_ ?_<;>intro _<;>try(exfalso;omega))|refine stq ?_|refine Cll.emb (vI (s:=nxB next cur c) (by simp;omega) hne hs (by omega)) [(0,1),(1,2),(2,3),(3,4)] [9] (i64 (ss.length:Int)) [(1,.cells [.map 2] true),(2,.map (pos (kV (ss++[nxB next cur c])) 0)),(3,.cells [.sl 40 0 (ss++[nxB next cur c]).length (ss++[nxB next cur c]).length 1 false] true),(40,.cells ((ss++[nxB next cur c]).flatMap nP) false)] [(0,.cells [aT,aT] true),(8,j3 n row),(5,.cells [ai 6 1 (r::rs),ai 7 1 (m::ms)] true),(6,.cells ((r::rs).flatMap ntC) false),(7,.cells ((m::ms).flatMap ntC) false)] rfl (by(repeat(first|exact Rds.nil|refine Rds.cons (by first|exact hfz rfl rfl|exact rdA|fail) ?_|fail));(first|done|fail)) (by(repeat(first|exact Bxs.nil|refine Bxs.cons rfl rfl rfl (by first|exact Rb.map (Res.same (aa _ _))|exact rbB|exact Rb.cells (by(repeat(first|exact Rds.nil|refine Rds.cons (by first|exact hfz rfl rfl|exact rdA|fail) ?_|fail));(first|done|fail)) rfl|exact rbC|fail) ?_|fail));(first|done|fail)) (by first|exact hfz rfl rfl|exact rdA|fail) (by(repeat(first|exact Bxs.nil|refine Bxs.cons rfl rfl rfl (by first|exact Rb.map (Res.same (aa _ _))|exact rbB|exact Rb.cells (by(repeat(first|exact Rds.nil|refine Rds.cons (by first|exact hfz rfl rfl|exact rdA|fail) ?_|fail));(first|done|fail)) rfl|exact rbC|fail) ?_|fail));(first|done|fail)) (by(repeat(first|exact aj.nil|refine aj.cons rfl rfl rfl ?_|fail));(first|done|fail)) ?_|refine Put.one (by simp;omega) ?_|fail))
       all_goals(conv=>whnf)
       refine⟨c+1,ss++[nxB next cur c],row++[ss.length],⟨hrow,by omega,by simp[hrl],by simp,by simp;omega,fun s hs=>?_,by rw[List.getElem?_append_left hil];exact hcur⟩,by omega,?_⟩
       ·rcases List.mem_append.1 hs with hs|hs
        ·exact hsl s hs
        ·simp at hs;subst hs;simp
       exact Lf.of2 [(0,_),(1,_),(2,_),(3,_),(4,_),(5,_),(6,_),(7,_),(8,_)] [] (by repeat(first|exact aM.nil|refine aM.cons rfl (by first|exact Rd.same (aY _ _ _ _ _ _)|exact Rd.fn Rds.nil (Rds.cons (Rd.ptr rfl) (Rds.cons (Rd.ptr rfl) Rds.nil))|exact rdA|fail) ?_)) (by repeat(first|exact Bxs.nil|refine Bxs.cons rfl rfl rfl (by first|exact Rb.cells (Rds.eqs (gu hrl) (aW (fun _=>rfl))) rfl|exact rbB|exact Rb.cells (by(repeat(first|exact Rds.nil|refine Rds.cons (by first|exact Rd.same (aY _ _ _ _ _ _)|exact Rd.fn Rds.nil (Rds.cons (Rd.ptr rfl) (Rds.cons (Rd.ptr rfl) Rds.nil))|exact rdA|fail) ?_|fail));(first|done|fail)) rfl|exact rbC|fail) ?_)) rfl rfl
      ·simp only[jF,hs,if_false,hs4] at hrow;cases hrow
   ·rw[show n-c=0 from by omega] at hrow;simp only[jF,kA,kB] at hrow;obtain⟨rfl,rfl⟩:=hrow;obtain rfl:c=n:=by omega
    repeat' ((conv=>whnf)<;>(first|refine sg ?_|exact kQ|(refine Br.mk ?_ ?_<;>intro _<;>try(exfalso;omega))|refine stq ?_|fail))
    refine aU.by2 aA T0 (fun(k:Nat) (mk:List Nat)=>⟨tmp 119 (auT c e back next hits roots i [(9,.sl 8 0 c c 1 true),(14,ai 9 1 mk),(87,dL roots),(88,i64 roots.length),(89,i64 (k:Int))]),⟨10,cW 9 (fun k=>[cZ k]) mk++((8,j3 c row)::auH ss (r::rs) (m::ms))⟩⟩)
     (fun k mk=>k<=roots.length∧mk=gn cur (roots.take k) 0) (fun k _=>roots.length-k) 0 [] ⟨by omega,by simp[gn]⟩ ?_ ?_
    ·exact Lf.of2 [(0,_),(1,_),(2,_),(3,_),(4,_),(5,_),(6,_),(7,_),(8,_)] [] (by repeat(first|exact aM.nil|refine aM.cons rfl (by first|exact Rd.same (aY _ _ _ _ _ _)|exact Rd.fn Rds.nil (Rds.cons (Rd.ptr rfl) (Rds.cons (Rd.ptr rfl) Rds.nil))|exact rdA|fail) ?_)) (by repeat(first|exact Bxs.nil|refine Bxs.cons rfl rfl rfl (by first|exact Rb.cells (Rds.same (aW (fun _=>rfl))) rfl|exact rbB|exact Rb.cells (by(repeat(first|exact Rds.nil|refine Rds.cons (by first|exact Rd.same (aY _ _ _ _ _ _)|exact Rd.fn Rds.nil (Rds.cons (Rd.ptr rfl) (Rds.cons (Rd.ptr rfl) Rds.nil))|exact rdA|fail) ?_|fail));(first|done|fail)) rfl|exact rbC|fail) ?_)) rfl rfl
    intro k mk ⟨hk,hmk1⟩;have hmkl:mk.length<=roots.length:=by rw[hmk1];exact Nat.le_trans (qN _ _) (by simp;omega)
    by_cases hk2:k<roots.length
    ·have hrk:=hrt _ (kM hk2);rw[<-hcl] at hrk;have hsu:=sA hk2 hrk;rw[<-hmk1] at hsu;cases hb:cur[roots[k]] with
     | true=>
      rw[hb] at hsu;cases mk with
      | nil=>
       repeat' ((conv=>whnf)<;>(first|refine Idx.atE (d:=boo true) roots[k] rfl hrk (by rw[hb]) ?_|refine sg ?_|exact kQ|(refine Br.mk ?_ ?_<;>intro _<;>try(exfalso;omega))|refine stq ?_|refine Get.one hgi ?_|fail))
       all_goals(conv=>whnf)
       refine⟨k+1,[k],⟨by omega,by rw[hsu];rfl⟩,by omega,?_⟩;exact Lf.of2 [(0,_),(1,_),(2,_),(3,_),(4,_),(5,_),(6,_),(7,_),(8,_),(9,_)] [] (by repeat(first|exact aM.nil|refine aM.cons rfl (by first|exact Rd.same (aY _ _ _ _ _ _)|exact Rd.fn Rds.nil (Rds.cons (Rd.ptr rfl) (Rds.cons (Rd.ptr rfl) Rds.nil))|exact rdA|fail) ?_)) (by repeat(first|exact Bxs.nil|refine Bxs.cons rfl rfl rfl (by first|exact Rb.cells (Rds.same (aW (fun _=>rfl))) rfl|exact rbB|exact Rb.cells (by(repeat(first|exact Rds.nil|refine Rds.cons (by first|exact Rd.same (aY _ _ _ _ _ _)|exact Rd.fn Rds.nil (Rds.cons (Rd.ptr rfl) (Rds.cons (Rd.ptr rfl) Rds.nil))|exact rdA|fail) ?_|fail));(first|done|fail)) rfl|exact rbC|fail) ?_)) rfl rfl
      | cons y ys=>
       have hy2:(y::ys).length=ys.length+1:=rfl;repeat' ((conv=>whnf)<;>(first|refine Idx.atE (d:=boo true) roots[k] rfl hrk (by rw[hb]) ?_|refine sg ?_|exact kQ|(refine Br.mk ?_ ?_<;>intro _<;>try(exfalso;omega))|refine stq ?_|refine Get.one hgi ?_|fail))
       all_goals(conv=>whnf)
       refine⟨k+1,(y::ys)++[k],⟨by omega,by rw[hsu];rfl⟩,by omega,?_⟩;exact Lf.of2 [(0,_),(1,_),(2,_),(3,_),(4,_),(5,_),(6,_),(7,_),(8,_),(9,_)] [] (by repeat(first|exact aM.nil|refine aM.cons rfl (by first|exact Rd.same (aY _ _ _ _ _ _)|exact Rd.fn Rds.nil (Rds.cons (Rd.ptr rfl) (Rds.cons (Rd.ptr rfl) Rds.nil))|exact Rd.own (l:=(y::ys)++[k]) (by simp) rfl (by simp) (by simp)|exact rdA|fail) ?_)) (by repeat(first|exact Bxs.nil|refine Bxs.cons rfl rfl rfl (by first|exact Rb.cells (Rds.same (aW (fun _=>rfl))) rfl|exact Rb.cells (Rds.eqs (ak (c:=fun k=>[cZ k]) (by intro _;rfl) (y::ys) _) (aD (by intro _;rfl) _)) rfl|exact rbB|exact Rb.cells (by(repeat(first|exact Rds.nil|refine Rds.cons (by first|exact Rd.same (aY _ _ _ _ _ _)|exact Rd.fn Rds.nil (Rds.cons (Rd.ptr rfl) (Rds.cons (Rd.ptr rfl) Rds.nil))|exact Rd.own (l:=(y::ys)++[k]) (by simp) rfl (by simp) (by simp)|exact rdA|fail) ?_|fail));(first|done|fail)) rfl|exact rbC|fail) ?_)) rfl rfl
     | false=>
      rw[hb] at hsu;cases mk with
      | nil=>
       repeat' ((conv=>whnf)<;>(first|refine Idx.atE (d:=boo false) roots[k] rfl hrk (by rw[hb]) ?_|refine sg ?_|exact kQ|(refine Br.mk ?_ ?_<;>intro _<;>try(exfalso;omega))|refine stq ?_|refine Get.one hgi ?_|fail))
       all_goals(conv=>whnf)
       refine⟨k+1,[],⟨by omega,by rw[hsu];rfl⟩,by omega,?_⟩;exact Lf.of2 [(0,_),(1,_),(2,_),(3,_),(4,_),(5,_),(6,_),(7,_),(8,_)] [] (by repeat(first|exact aM.nil|refine aM.cons rfl (by first|exact Rd.same (aY _ _ _ _ _ _)|exact Rd.fn Rds.nil (Rds.cons (Rd.ptr rfl) (Rds.cons (Rd.ptr rfl) Rds.nil))|exact rdA|fail) ?_)) (by repeat(first|exact Bxs.nil|refine Bxs.cons rfl rfl rfl (by first|exact Rb.cells (Rds.same (aW (fun _=>rfl))) rfl|exact rbB|exact Rb.cells (by(repeat(first|exact Rds.nil|refine Rds.cons (by first|exact Rd.same (aY _ _ _ _ _ _)|exact Rd.fn Rds.nil (Rds.cons (Rd.ptr rfl) (Rds.cons (Rd.ptr rfl) Rds.nil))|exact rdA|fail) ?_|fail));(first|done|fail)) rfl|exact rbC|fail) ?_)) rfl rfl
      | cons y ys=>
       repeat' ((conv=>whnf)<;>(first|refine Idx.atE (d:=boo false) roots[k] rfl hrk (by rw[hb]) ?_|refine sg ?_|exact kQ|(refine Br.mk ?_ ?_<;>intro _<;>try(exfalso;omega))|refine stq ?_|refine Get.one hgi ?_|fail))
       all_goals(conv=>whnf)
       refine⟨k+1,y::ys,⟨by omega,by rw[hsu];simp⟩,by omega,?_⟩;exact Lf.of2 [(0,_),(1,_),(2,_),(3,_),(4,_),(5,_),(6,_),(7,_),(8,_),(9,_)] [] (by repeat(first|exact aM.nil|refine aM.cons rfl (by first|exact Rd.same (aY _ _ _ _ _ _)|exact Rd.fn Rds.nil (Rds.cons (Rd.ptr rfl) (Rds.cons (Rd.ptr rfl) Rds.nil))|exact rdA|fail) ?_)) (by repeat(first|exact Bxs.nil|refine Bxs.cons rfl rfl rfl (by first|exact Rb.cells (Rds.same (aW (fun _=>rfl))) rfl|exact rbB|exact Rb.cells (by(repeat(first|exact Rds.nil|refine Rds.cons (by first|exact Rd.same (aY _ _ _ _ _ _)|exact Rd.fn Rds.nil (Rds.cons (Rd.ptr rfl) (Rds.cons (Rd.ptr rfl) Rds.nil))|exact rdA|fail) ?_|fail));(first|done|fail)) rfl|exact rbC|fail) ?_)) rfl rfl
    ·have hmk2:mk=gn cur roots 0:=by rw[hmk1,kE (by omega)]
     cases mk with
     | nil=>
      repeat' ((conv=>whnf)<;>(first|refine sg ?_|exact kQ|(refine Br.mk ?_ ?_<;>intro _<;>try(exfalso;omega))|refine stq ?_|fail))
      all_goals(conv=>whnf)
      refine⟨⟨f,i+1,ss,(r::rs)++[row],(m::ms)++[[]]⟩,⟨by rw[hmk2];exact h1,hne,hss,hsl,by dsimp only;have:=(List.getElem?_eq_some_iff.1 hcur).1;omega,by dsimp only;rw[kG,hrw];rfl,by dsimp only;rw[kG,hmk];rfl⟩,by dsimp only;omega,?_⟩;exact Lf.of2 [(0,_),(1,_),(2,_),(3,_),(4,_),(5,_),(6,_),(7,_)] [8,9] (by repeat(first|exact aM.nil|refine aM.cons rfl (by first|exact Rd.same (aY _ _ _ _ _ _)|exact Rd.fn Rds.nil (Rds.cons (Rd.ptr rfl) (Rds.cons (Rd.ptr rfl) Rds.nil))|exact Rd.own (l:=(r::rs)++[row]) (by simp) rfl (by simp) (by simp)|exact Rd.own (l:=(m::ms)++[[]]) (by simp) rfl (by simp) (by simp)|exact rdA|fail) ?_)) (by repeat(first|exact Bxs.nil|refine Bxs.cons rfl rfl rfl (by first|exact Rb.cells (gG (l:=r::rs) (lH rfl rfl hrl)) rfl|exact Rb.cells (gG (l:=m::ms) (nE (l:=y::ys) rfl rfl)) rfl|exact Rb.cells (gG (l:=m::ms) (r:=[]) Rd.nil) rfl|exact rbB|exact Rb.cells (by(repeat(first|exact Rds.nil|refine Rds.cons (by first|exact Rd.same (aY _ _ _ _ _ _)|exact Rd.fn Rds.nil (Rds.cons (Rd.ptr rfl) (Rds.cons (Rd.ptr rfl) Rds.nil))|exact Rd.own (l:=(r::rs)++[row]) (by simp) rfl (by simp) (by simp)|exact Rd.own (l:=(m::ms)++[[]]) (by simp) rfl (by simp) (by simp)|exact rdA|fail) ?_|fail));(first|done|fail)) rfl|exact rbC|fail) ?_)) rfl rfl
     | cons y ys=>
      repeat' ((conv=>whnf)<;>(first|refine sg ?_|exact kQ|(refine Br.mk ?_ ?_<;>intro _<;>try(exfalso;omega))|refine stq ?_|fail))
      all_goals(conv=>whnf)
      refine⟨⟨f,i+1,ss,(r::rs)++[row],(m::ms)++[(y::ys)]⟩,⟨by rw[hmk2];exact h1,hne,hss,hsl,by dsimp only;have:=(List.getElem?_eq_some_iff.1 hcur).1;omega,by dsimp only;rw[kG,hrw];rfl,by dsimp only;rw[kG,hmk];rfl⟩,by dsimp only;omega,?_⟩;exact Lf.of2 [(0,_),(1,_),(2,_),(3,_),(4,_),(5,_),(6,_),(7,_)] [8,9] (by repeat(first|exact aM.nil|refine aM.cons rfl (by first|exact Rd.same (aY _ _ _ _ _ _)|exact Rd.fn Rds.nil (Rds.cons (Rd.ptr rfl) (Rds.cons (Rd.ptr rfl) Rds.nil))|exact Rd.own (l:=(r::rs)++[row]) (by simp) rfl (by simp) (by simp)|exact Rd.own (l:=(m::ms)++[(y::ys)]) (by simp) rfl (by simp) (by simp)|exact rdA|fail) ?_)) (by repeat(first|exact Bxs.nil|refine Bxs.cons rfl rfl rfl (by first|exact Rb.cells (gG (l:=r::rs) (lH rfl rfl hrl)) rfl|exact Rb.cells (gG (l:=m::ms) (nE (l:=y::ys) rfl rfl)) rfl|exact Rb.cells (gG (l:=m::ms) (r:=[]) Rd.nil) rfl|exact rbB|exact Rb.cells (by(repeat(first|exact Rds.nil|refine Rds.cons (by first|exact Rd.same (aY _ _ _ _ _ _)|exact Rd.fn Rds.nil (Rds.cons (Rd.ptr rfl) (Rds.cons (Rd.ptr rfl) Rds.nil))|exact Rd.own (l:=(r::rs)++[row]) (by simp) rfl (by simp) (by simp)|exact Rd.own (l:=(m::ms)++[(y::ys)]) (by simp) rfl (by simp) (by simp)|exact rdA|fail) ?_|fail));(first|done|fail)) rfl|exact rbC|fail) ?_)) rfl rfl
 ·have h2:ss[i]?=none:=List.getElem?_eq_none (by omega);simp only[jo,h2,kA,kB] at h1;obtain⟨rfl,rfl⟩:=h1;cases rows with
  | nil=>
   obtain rfl:marks=[]:=List.eq_nil_of_length_eq_zero (l:=marks) (by simp at hrw;omega);repeat' ((conv=>whnf)<;>(first|refine sg ?_|exact kQ|(refine Br.mk ?_ ?_<;>intro _<;>try(exfalso;omega))|refine stq ?_|fail))
   all_goals(conv=>whnf)
   exact⟨.tup (.cons (.agg (.cons .nil (.cons .nil .nil))) (.cons (.same rfl) .nil))⟩
  | cons r rs=>
   obtain⟨m,ms,rfl⟩:=kI (show 0<marks.length by simp at hrw;omega);repeat' ((conv=>whnf)<;>(first|refine sg ?_|exact kQ|(refine Br.mk ?_ ?_<;>intro _<;>try(exfalso;omega))|refine stq ?_|fail))
   all_goals(conv=>whnf)
   exact⟨.tup (.cons (.agg (.cons (qY (l:=r::rs) rfl rfl) (.cons (qY (l:=m::ms) rfl rfl) .nil))) (.cons (.same rfl) .nil))⟩
end Go.Proofs.YtjpgpihbhicinaaGreatDoor
