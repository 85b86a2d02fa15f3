/-
  Contracts of functions over data: the automaton of a machine.
-/
import Derived.Test.YtpgcjpcenaefpaaGreatDoorC0
import Derived.Test.YtpgcjpcenaefpaaGreatDoorAmF
set_option linter.unusedSectionVars false
namespace Go.Proofs.YtpgcjpcenaefpaaGreatDoor
open Go Go.Am Classical
set_option maxRecDepth 100000
theorem xC7.rdX {p:Prop}(h:p:=by first|exact Rd.same (Bu _ _ _ _ _ _)|exact Rd.fn Rds.nil (Rds.cons (Rd.ptr rfl) (Rds.cons (Rd.ptr rfl) Rds.nil))|exact Rd.same (a8 _)|exact hfz rfl rfl|exact Rd.own (l:=(y::ys)++[k]) sim rfl sim sim|exact Rd.own (l:=[]++[row]) sim rfl sim sim|exact Rd.own (l:=[]++[[]]) sim rfl sim sim|exact Rd.own (l:=[]++[(y::ys)]) sim rfl sim sim|exact Rd.own (l:=(r::rs)++[row]) sim rfl sim sim|exact Rd.own (l:=(m::ms)++[[]]) sim rfl sim sim|exact Rd.own (l:=(m::ms)++[(y::ys)]) sim rfl sim sim|fail):p:=h
theorem xC7.rbX {p:Prop}(h:p:=by first|exact Rb.cells (Rds.same (y6 (a8 _))) rfl|exact Rb.cells (Rds.same (ag (λ_=>rfl))) rfl|exact Rb.cells (Rds.eqs (z9 hrl) (ag (λ_=>rfl))) rfl|exact Rb.cells (Rds.eqs (aU (c:=λk=>[cE k]) (by intro _;rfl) (y::ys) _) (aE (by intro _;rfl) _)) rfl|exact Rb.cells (Rds.cons (pX rfl rfl hrl) Rds.nil) rfl|exact Rb.cells (Rds.cons (vE (l:=y::ys) rfl rfl) Rds.nil) rfl|exact Rb.cells (Rds.cons Rd.nil Rds.nil) rfl|exact Rb.cells (mO (l:=r::rs) (pX rfl rfl hrl)) rfl|exact Rb.cells (mO (l:=m::ms) (vE (l:=y::ys) rfl rfl)) rfl|exact Rb.cells (mO (l:=m::ms) (r:=[]) Rd.nil) rfl|exact Rb.map (Res.same (dN _ _))|exact Rb.cells (Rds.eqs (bo om (λi _=>by first|(simp;done)|fail)) (ag (λ_=>rfl))) rfl|exact Rb.cells (Rds.eqs (cf (by first|(rw[hg];simp;done)|fail) (λi _ hi=>by first|(simp only[show(decide (i<k+1))=(decide (i<k)) from by rw[decide_eq_decide];omega];done)|fail)) (ag (λ_=>rfl))) rfl|fail):p:=h
open xC7
variable [GT]
abbrev bG (l:List (List Nat)):D:=lst c6 l
theorem d6 (l:List (List Nat)):aI (bG l)=true:=e9 bm l
abbrev ntC (r:List Nat):List D:=[c6 r]
theorem y7 (s:List Bool):aF (nA s)=true:=by simp[aF,a8]
theorem s7 (s:List Nat):aF (ntC s)=true:=by simp[aF,bm]
def nxB (next:List (List Nat)) (cur:List Bool) (c:Nat):List Bool:=next.map λr=>cur.getD (r.getD c 0) false
@[simp] theorem nxB_len {next:List (List Nat)} {cur:List Bool} {c:Nat}:(nxB next cur c).length=next.length:=by simp[nxB]
def ix (next:List (List Nat)) (cur:List Bool):Nat->Nat->List (List Bool)->List Nat->Option (List Nat×List (List Bool))
 | 0,_,ss,row=>some (row,ss)
 | k+1,c,ss,row=>
  if nxB next cur c∈ss then ix next cur k (c+1) ss (row++[ss.idxOf (nxB next cur c)])
  else if ss.length<400 then ix next cur k (c+1) (ss++[nxB next cur c]) (row++[ss.length]) else none
def gn (cur:List Bool):List Nat->Nat->List Nat
 | [],_=>[]
 | r::l,i=>if cur.getD r false then i::gn cur l (i+1) else gn cur l (i+1)
def ic (n:Nat) (next:List (List Nat)) (roots:List Nat):Nat->Nat->List (List Bool)->List (List Nat)->List (List Nat)->Option (List (List Nat)×List (List Nat))
 | 0,_,_,_,_=>none
 | f+1,i,ss,rows,marks=>
  match ss[i]? with
  | none=>some (rows,marks)
  | some cur=>
   match ix next cur n 0 ss [] with
   | none=>none
   | some (row,ss')=>ic n next roots f (i+1) ss' (rows++[row]) (marks++[gn cur roots 0])
theorem oa {cur:List Bool}:∀ (l m:List Nat) (i:Nat),gn cur (l++m) i=gn cur l i++gn cur m (i+l.length)
 | [],m,i=>by simp[gn]
 | r::l,m,i=>by
  simp only[List.cons_append,gn,kO,oa l m (i+1),show i+1+l.length=i+(l.length+1) from by omega];split<;>simp
theorem qr {cur:List Bool}:∀ (l:List Nat) (i:Nat),(gn cur l i).length<=l.length
 | [],i=>by simp[gn]
 | r::l,i=>by
  have:=qr (cur:=cur) l (i+1)
  simp only[gn];split<;>simp<;>omega
theorem Ek {ss:List (List Bool)}{s:List Bool}:(jz ss).idxOf (jZ s)=ss.idxOf s:=by
 induction ss with
 | nil=>rfl
 | cons t ts ih=>
  simp only[jz,List.map_cons,List.idxOf_cons] at ih ⊢;by_cases h:t=s
  ·subst h;simp
  ·have h2:¬jZ t=jZ s:=λe=>h (rI e)
   rw[beq_eq_false_iff_ne.2 h,beq_eq_false_iff_ne.2 h2];simp only[cond_false,ih]
abbrev auN (ss:List (List Bool)):List (Nat×Box):=[(0,.cells [.map 1] true),(1,.map (pos (jz ss) 0)),(2,.cells [.sl 3 0 ss.length ss.length 1 false] true),(3,.cells (ss.flatMap nA) false)]
theorem wX {ss:List (List Bool)}{s:List Bool}(hl:s.length<=1000000) (hs:s∈ss) :
  AC1 Tryz.prog 147 [bz s,.ptr 0 0,.ptr 2 0] ⟨4,auN ss⟩ (i64 (ss.idxOf s:Int)) ⟨20,auN ss⟩:=by
 have:=yx hl hs
 rw[Ek] at this;cases ss with
 | nil=>simp at hs
 | cons t ts=>exact this
theorem wY {ss:List (List Bool)}{s:List Bool}(hl:s.length<=1000000) (h0:ss≠[]) (hs:¬s∈ss) (hn:ss.length<=1000000) :
  AC1 Tryz.prog 147 [bz s,.ptr 0 0,.ptr 2 0] ⟨4,auN ss⟩ (i64 (ss.length:Int)) ⟨32,auR ss s⟩:=by
 have:=s5 hl hs hn
 cases ss with
 | nil=>simp at h0
 | cons t ts=>exact this
abbrev EH (n e:Nat) (back:Bool) (next:List (List Nat)) (hits:List Bool) (roots:List Nat):List D:=[i64 n,i64 e,boo back,bG next,bz hits,c6 roots]
abbrev auT (n e:Nat) (back:Bool) (next:List (List Nat)) (hits:List Bool) (roots:List Nat) (i:Nat) (tl:List (Nat×D)):List (Nat×D):=
 (0,.iptr (EH n e back next hits roots))::(2,.ptr 0 0)::(5,.ptr 3 0)::(6,.fn (.func 147) [] [.ptr 1 0,.ptr 3 0])::(7,.ptr 5 0)::(8,i64 (i:Int))::tl
abbrev auH (ss:List (List Bool)) (rows marks:List (List Nat)):List (Nat×Box):=
 (0,.cells [aM,aM] true)::(1,.cells [.map 2] true)::(2,.map (pos (jz ss) 0))::(3,.cells [.sl 4 0 ss.length ss.length 1 false] true)::(4,.cells (ss.flatMap nA) false)::(5,.cells [aV 6 1 rows,aV 7 1 marks] true)::(cK 6 ntC rows++cK 7 ntC marks)
theorem Bu (n e:Nat) (back:Bool) (next:List (List Nat)) (hits:List Bool) (roots:List Nat):aI (.iptr (EH n e back next hits roots))=true:=by simp[aI,aF,d6,bm,a8]
theorem y6 {d:D}(h:aI d=true):aF [d]=true:=by simp[aF,h]
structure ASt where
 f:Nat
 i:Nat
 ss:List (List Bool)
 rows:List (List Nat)
 marks:List (List Nat)
abbrev jl (n:Nat) (row:List Nat):Box:=.cells (bF n λj=>i64 ((row.getD j 0:Nat):Int)) true
abbrev GK (N k:Nat) (s:List Bool):Box:=.cells (bF N λj=>boo (decide (j<k)&&s.getD j false)) true
theorem Es {l:List Nat}{x j:Nat}(h:j≠l.length):(l++[x]).getD j 0=l.getD j 0:=by
 rcases(by omega:j<l.length∨l.length<j) with h1|h1
 ·rw[aK (by simp;omega),aK h1,List.getElem_append_left h1]
 ·simp only[List.getD];rw[List.getElem?_eq_none (by simp;omega),List.getElem?_eq_none om]
theorem Er {l:List Nat}{x j:Nat}(h:j=l.length):(l++[x]).getD j 0=x:=by
 subst h;simp[List.getD]
theorem AM {next:List (List Nat)}{cur:List Bool}{c k:Nat}(h1:k<next.length) (h2:c<next[k].length) (h3:next[k][c]<cur.length):(nxB next cur c).getD k false=cur[next[k][c]]:=by
 rw[aK (by simpa using h1)];simp only[nxB,List.getElem_map];rw[aK h2,aK h3]
theorem z9 {n c x:Nat}{row:List Nat}(h:row.length=c):(bF n λj=>i64 ((row.getD j 0:Nat):Int)).set c (i64 (x:Int))=bF n λj=>i64 (((row++[x]).getD j 0:Nat):Int):=
 cf (by rw[Er h.symm]) (λj _ hj=>by rw[Es om])
section
variable {h:aA}{fz:Nat->Bool}{σ:Nat->Option Nat}
theorem mO {l:List (List Nat)}{r:List Nat}{d:D}(hd:Rd h fz σ d (c6 r)):Rds h fz σ (((l.flatMap ntC).drop 0).take (l.length*1)++[d]) ((l++[r]).flatMap ntC):=by
 rw[List.flatMap_append];refine Rds.app (.eqs ?_ (aE s7 _)) (.cons hd .nil);rw[List.drop_zero,kE (by rw[aZ (sz:=1) (λ_=>rfl)];exact kP _)]
theorem pX {id n:Nat}{row:List Nat}{ex:Bool}(hf:fz id=true) (hg:h.get id=some (jl n row)) (hl:row.length=n):Rd h fz σ (.sl id 0 n n 1 ex) (c6 row):=by
 subst hl;refine .frz hf hg si (.eqs ?_ (aS (λ_=>rfl) _));rw[List.drop_zero,kE si];exact gz λi hi=>by rw[aK hi]
theorem vE {id:Nat}{l:List Nat}{ex bx:Bool}(hf:fz id=true) (hg:h.get id=some (.cells (l.flatMap λk=>[cE k]) bx)):Rd h fz σ (.sl id 0 l.length l.length 1 ex) (c6 l):=by
 refine .frz hf hg (by rw[aN];simp) (.eqs ?_ (aS (λ_=>rfl) _));rw[List.drop_zero,kE (by rw[aN];simp),aN]
theorem rE {id:Nat}{l:List (List Nat)}{ex bx:Bool}(hf:fz id=true) (hg:h.get id=some (.cells (l.flatMap ntC) bx)):Rd h fz σ (.sl id 0 l.length l.length 1 ex) (bG l):=by
 refine .frz hf hg (by rw[aN];simp) (.eqs ?_ (aS bm _));rw[List.drop_zero,kE (by rw[aN];simp),aN]
end
theorem tB {cur:List Bool}{roots:List Nat}{k:Nat}(h:k<roots.length) (h2:roots[k]<cur.length):gn cur (roots.take (k+1)) 0=gn cur (roots.take k) 0++(if cur[roots[k]] then [k] else []):=by
 rw[bR h,oa,List.length_take,Nat.min_eq_left om];simp only[gn,aK h2,Nat.zero_add]
set_option maxHeartbeats 4000000 in
theorem aut_c {n e:Nat}{back:Bool}{next:List (List Nat)}{hits:List Bool}{roots:List Nat}{R M:List (List Nat)}{F:Nat}(hn:n<=1000) (hx:next.length<=100000) (hh:hits.length=next.length) (hro:roots.length<=100000)
  (hr:∀ r∈next,r.length=n∧∀ x∈r,x<next.length) (hrt:∀ x∈roots,x<next.length) (h:ic n next roots F 0 [hits] [] []=some (R,M)) :
  Pu Tryz.prog 111 [.iptr (EH n e back next hits roots)] (.tup [.agg [bG R,bG M],boo true]):=by
 refine pv Tryz.func111 ?_;repeat' ((conv=>whnf);first|exact kQ|(refine bk ?_ ?_<;>intro _<;>try(exfalso;omega))|refine stq ?_|refine Cll.emb (s5 (ss:=[]) (s:=hits) om si si) [(0,3),(1,2),(2,5)] [] (i64 (0:Int)) [(3,.cells [.map 2] true),(2,.map (pos (jz [hits]) 0)),(5,.cells [.sl 38 0 1 1 1 false] true),(38,.cells [bz hits] false)] [(0,.cells [aM,aM] true)] rfl cm bxA rdA bxA reA ?_|fail)
 refine aH.by aB T0 (λa:ASt=>⟨tmp 119 (auT n e back next hits roots a.i []),⟨8,auH a.ss a.rows a.marks⟩⟩)
  (λa=>ic n next roots a.f a.i a.ss a.rows a.marks=some (R,M)∧a.ss≠[]∧a.ss.length<=400∧(∀ s∈a.ss,s.length=next.length)∧a.i<=a.ss.length∧a.rows.length=a.i∧a.marks.length=a.i) (λa=>a.f) ⟨F,0,[hits],[],[]⟩ ⟨h,by simp,by simp,by simp[hh],by simp,rfl,rfl⟩ ?_ ?_
 ·exact lq [(0,_),(1,_),(2,_),(3,_),(4,_),(5,_)] []
 clear h;intro⟨f,i,ss,rows,marks⟩ ⟨h1,hne,hss,hsl,hi,hrw,hmk⟩;dsimp only at h1 hne hss hsl hi hrw hmk ⊢;cases f with
 | zero=>simp[ic] at h1
 | succ f=>
 by_cases hlt:i<ss.length
 ·have hcur:ss[i]?=some ss[i]:=List.getElem?_eq_getElem hlt;generalize hgc:ss[i]=cur at hcur;simp only[ic,hcur] at h1;have hcl:cur.length=next.length:=by rw[<-hgc];exact hsl _ (kM hlt)
  clear hgc;cases hrow:ix next cur n 0 ss [] with
  | none=>simp[hrow] at h1
  | some p=>
  obtain⟨row',ss'⟩:=p;simp only[hrow] at h1;cases rows with
  | nil=>
   obtain rfl:marks=[]:=List.eq_nil_of_length_eq_zero (l:=marks) (by simp at hrw;omega);repeat' ((conv=>whnf);first|exact kQ|(refine bk ?_ ?_<;>intro _<;>try(exfalso;omega))|refine stq ?_|fail)
   refine aH.by3 aB T0 (λ(c:Nat) (ss:List (List Bool)) (row:List Nat)=>⟨tmp 119 (auT n e back next hits roots i [(9,.sl 8 0 n n 1 true),(39,i64 n),(40,i64 (c:Int))]),⟨9,(8,jl n row)::auH ss [] []⟩⟩)
    (λc ss row=>ix next cur (n-c) c ss row=some (row',ss')∧c<=n∧row.length=c∧ss≠[]∧ss.length<=400∧(∀ s∈ss,s.length=next.length)∧ss[i]?=some cur) (λc _ _=>n-c) 0 ss [] ⟨hrow,by omega,rfl,hne,hss,hsl,hcur⟩ ?_ ?_
   ·exact lq [(0,_),(1,_),(2,_),(3,_),(4,_),(5,_),(8,_)] []
   clear hrow hss hsl hcur hne hi hlt;intro c ss row ⟨hrow,hcn,hrl,hne,hss,hsl,hcur⟩;have hgi:(ss.flatMap nA)[i]?=some (bz cur):=by rw[aN];simp[hcur]
   have hil:i<ss.length:=(List.getElem?_eq_some_iff.1 hcur).1;by_cases hc:c<n
   ·repeat' ((conv=>whnf);first|exact kQ|(refine bk ?_ ?_<;>intro _<;>try(exfalso;omega))|refine stq ?_|fail)
    refine aH.by aB T0 (λk:Nat=>⟨tmp 119 (auT n e back next hits roots i [(9,.sl 8 0 n n 1 true),(10,i64 (c:Int)),(11,.sl 9 0 next.length next.length 1 true),(39,i64 n),(40,i64 (c:Int)),(52,bG next),(53,i64 next.length),(54,i64 (k:Int))]),⟨10,(9,GK next.length k (nxB next cur c))::(8,jl n row)::auH ss [] []⟩⟩)
     (λk=>k<=next.length) (λk=>next.length-k) 0 om ?_ ?_
    ·exact lq [(0,_),(1,_),(2,_),(3,_),(4,_),(5,_),(8,_),(9,_)] []
    intro k hk;by_cases hk2:k<next.length
    ·have hrk:=hr _ (kM hk2);have hck:c<next[k].length:=by omega
     have hx2:next[k][c]<cur.length:=by rw[hcl];exact hrk.2 _ (kM hck)
     have hg:=AM hk2 hck hx2;repeat' ((conv=>whnf);first|exact kQ|(refine bk ?_ ?_<;>intro _<;>try(exfalso;omega))|refine stq ?_|refine ac.by (id:=17) aB T0 [0,0,0,0,12,28,0,0,192,448,1020,2044,4095,8191] (by kernel_rfl) ?_|refine Get.one hgi ?_|refine Put.one (by simp;omega) ?_|fail)
     all_goals(conv=>whnf)
     refine⟨k+1,by omega,by omega,?_⟩;exact lq [(0,_),(1,_),(2,_),(3,_),(4,_),(5,_),(8,_),(9,_)] []
    ·have hfin:(bF next.length λj=>boo (decide (j<k)&&(nxB next cur c).getD j false))=(nxB next cur c).map boo:=by
      have e:next.length=(nxB next cur c).length:=by simp
      rw[e];exact gz λj hj=>by rw[aK hj,decide_eq_true (by simp at hj;omega),Bool.true_and]
     have hfz:∀ {fz:Nat->Bool} {σ:Nat->Option Nat} {h:aA},fz 9=true->h.get 9=some (GK next.length k (nxB next cur c))->Rd h fz σ (.sl 9 0 next.length next.length 1 true) (bz (nxB next cur c)):=λh1 h2=>by
      have e:(nxB next cur c).length=next.length:=by simp
      unfold bz lst;rw[e];exact .frz h1 h2 si (.eqs (by rw[hfin,List.drop_zero,kE si]) (aS (λ_=>rfl) _))
     have hnc:n-c=(n-(c+1))+1:=by omega
     rw[hnc] at hrow;by_cases hs:nxB next cur c∈ss
     ·simp only[ix,hs,if_true] at hrow;repeat' ((conv=>whnf);first|exact kQ|(refine bk ?_ ?_<;>intro _<;>try(exfalso;omega))|refine stq ?_|refine Cll.emb (wX (s:=nxB next cur c) (by simp;omega) hs) [(0,1),(1,2),(2,3),(3,4)] [9] (i64 (ss.idxOf (nxB next cur c):Int)) [(1,.cells [.map 2] true),(2,.map (pos (jz ss) 0)),(3,.cells [.sl 4 0 ss.length ss.length 1 false] true),(4,.cells (ss.flatMap nA) false)] [(0,.cells [aM,aM] true),(8,jl n row),(5,.cells [aV 6 1 [],aV 7 1 []] true)] rfl cm bxA rdA bxA reA ?_|refine Put.one (by simp;omega) ?_|fail)
      all_goals(conv=>whnf)
      refine⟨c+1,ss,row++[ss.idxOf (nxB next cur c)],⟨hrow,by omega,by simp[hrl],hne,hss,hsl,hcur⟩,by omega,?_⟩;exact lq [(0,_),(1,_),(2,_),(3,_),(4,_),(5,_),(8,_)] []
     ·by_cases hs4:ss.length<400
      ·simp only[ix,hs,if_false,hs4,if_true] at hrow;have hsl2:(ss++[nxB next cur c]).length=ss.length+1:=by simp
       repeat' ((conv=>whnf);first|exact kQ|(refine bk ?_ ?_<;>intro _<;>try(exfalso;omega))|refine stq ?_|refine Cll.emb (wY (s:=nxB next cur c) (by simp;omega) hne hs om) [(0,1),(1,2),(2,3),(3,4)] [9] (i64 (ss.length:Int)) [(1,.cells [.map 2] true),(2,.map (pos (jz (ss++[nxB next cur c])) 0)),(3,.cells [.sl 40 0 (ss++[nxB next cur c]).length (ss++[nxB next cur c]).length 1 false] true),(40,.cells ((ss++[nxB next cur c]).flatMap nA) false)] [(0,.cells [aM,aM] true),(8,jl n row),(5,.cells [aV 6 1 [],aV 7 1 []] true)] rfl cm bxA rdA bxA reA ?_|refine Put.one (by simp;omega) ?_|fail)
       all_goals(conv=>whnf)
       refine⟨c+1,ss++[nxB next cur c],row++[ss.length],⟨hrow,by omega,by simp[hrl],by simp,by simp;omega,λs hs=>?_,by rw[List.getElem?_append_left hil];exact hcur⟩,by omega,?_⟩
       ·rcases List.mem_append.1 hs with hs|hs
        ·exact hsl s hs
        ·simp at hs;subst hs;simp
       exact lq [(0,_),(1,_),(2,_),(3,_),(4,_),(5,_),(8,_)] []
      ·simp only[ix,hs,if_false,hs4] at hrow;cases hrow
   ·rw[show n-c=0 from by omega] at hrow;simp only[ix,kA,kB] at hrow;obtain⟨rfl,rfl⟩:=hrow;obtain rfl:c=n:=by omega
    repeat' ((conv=>whnf);first|exact kQ|(refine bk ?_ ?_<;>intro _<;>try(exfalso;omega))|refine stq ?_|fail)
    refine aH.by2 aB T0 (λ(k:Nat) (mk:List Nat)=>⟨tmp 119 (auT c e back next hits roots i [(9,.sl 8 0 c c 1 true),(14,aV 9 1 mk),(87,c6 roots),(88,i64 roots.length),(89,i64 (k:Int))]),⟨10,cK 9 (λk=>[cE k]) mk++((8,jl c row)::auH ss [] [])⟩⟩)
     (λk mk=>k<=roots.length∧mk=gn cur (roots.take k) 0) (λk _=>roots.length-k) 0 [] ⟨by omega,by simp[gn]⟩ ?_ ?_
    ·exact lq [(0,_),(1,_),(2,_),(3,_),(4,_),(5,_),(8,_)] []
    intro k mk ⟨hk,hmk1⟩;have hmkl:mk.length<=roots.length:=by rw[hmk1];exact Nat.le_trans (qr _ _) (by simp;omega)
    by_cases hk2:k<roots.length
    ·have hrk:=hrt _ (kM hk2);rw[<-hcl] at hrk;have hsu:=tB hk2 hrk;rw[<-hmk1] at hsu;cases hb:cur[roots[k]] with
     | true=>
      rw[hb] at hsu;cases mk with
      | nil=>
       repeat' ((conv=>whnf);first|refine Idx.atE (d:=boo true) roots[k] rfl hrk (by rw[hb]) ?_|exact kQ|(refine bk ?_ ?_<;>intro _<;>try(exfalso;omega))|refine stq ?_|refine Get.one hgi ?_|fail)
       all_goals(conv=>whnf)
       refine⟨k+1,[k],⟨by omega,by rw[hsu];rfl⟩,by omega,?_⟩;exact lq [(0,_),(1,_),(2,_),(3,_),(4,_),(5,_),(8,_),(9,_)] []
      | cons y ys=>
       have hy2:(y::ys).length=ys.length+1:=rfl;repeat' ((conv=>whnf);first|refine Idx.atE (d:=boo true) roots[k] rfl hrk (by rw[hb]) ?_|exact kQ|(refine bk ?_ ?_<;>intro _<;>try(exfalso;omega))|refine stq ?_|refine Get.one hgi ?_|fail)
       all_goals(conv=>whnf)
       refine⟨k+1,(y::ys)++[k],⟨by omega,by rw[hsu];rfl⟩,by omega,?_⟩;exact lq [(0,_),(1,_),(2,_),(3,_),(4,_),(5,_),(8,_),(9,_)] []
     | false=>
      rw[hb] at hsu;cases mk with
      | nil=>
       repeat' ((conv=>whnf);first|refine Idx.atE (d:=boo false) roots[k] rfl hrk (by rw[hb]) ?_|exact kQ|(refine bk ?_ ?_<;>intro _<;>try(exfalso;omega))|refine stq ?_|refine Get.one hgi ?_|fail)
       all_goals(conv=>whnf)
       refine⟨k+1,[],⟨by omega,by rw[hsu];rfl⟩,by omega,?_⟩;exact lq [(0,_),(1,_),(2,_),(3,_),(4,_),(5,_),(8,_)] []
      | cons y ys=>
       repeat' ((conv=>whnf);first|refine Idx.atE (d:=boo false) roots[k] rfl hrk (by rw[hb]) ?_|exact kQ|(refine bk ?_ ?_<;>intro _<;>try(exfalso;omega))|refine stq ?_|refine Get.one hgi ?_|fail)
       all_goals(conv=>whnf)
       refine⟨k+1,y::ys,⟨by omega,by rw[hsu];simp⟩,by omega,?_⟩;exact lq [(0,_),(1,_),(2,_),(3,_),(4,_),(5,_),(8,_),(9,_)] []
    ·have hmk2:mk=gn cur roots 0:=by rw[hmk1,kE om]
     cases mk with
     | nil=>
      repeat' ((conv=>whnf);first|exact kQ|(refine bk ?_ ?_<;>intro _<;>try(exfalso;omega))|refine stq ?_|fail)
      all_goals(conv=>whnf)
      refine⟨⟨f,i+1,ss,[]++[row],[]++[[]]⟩,⟨by rw[hmk2];exact h1,hne,hss,hsl,by dsimp only;have:=(List.getElem?_eq_some_iff.1 hcur).1;omega,by dsimp only;rw[kG,hrw];rfl,by dsimp only;rw[kG,hmk];rfl⟩,by dsimp only;omega,?_⟩;exact lq [(0,_),(1,_),(2,_),(3,_),(4,_),(5,_),(6,_),(7,_)] [8,9]
     | cons y ys=>
      repeat' ((conv=>whnf);first|exact kQ|(refine bk ?_ ?_<;>intro _<;>try(exfalso;omega))|refine stq ?_|fail)
      all_goals(conv=>whnf)
      refine⟨⟨f,i+1,ss,[]++[row],[]++[(y::ys)]⟩,⟨by rw[hmk2];exact h1,hne,hss,hsl,by dsimp only;have:=(List.getElem?_eq_some_iff.1 hcur).1;omega,by dsimp only;rw[kG,hrw];rfl,by dsimp only;rw[kG,hmk];rfl⟩,by dsimp only;omega,?_⟩;exact lq [(0,_),(1,_),(2,_),(3,_),(4,_),(5,_),(6,_),(7,_)] [8,9]
  | cons r rs=>
   obtain⟨m,ms,rfl⟩:=kI (show 0<marks.length by simp at hrw;omega);repeat' ((conv=>whnf);first|exact kQ|(refine bk ?_ ?_<;>intro _<;>try(exfalso;omega))|refine stq ?_|fail)
   refine aH.by3 aB T0 (λ(c:Nat) (ss:List (List Bool)) (row:List Nat)=>⟨tmp 119 (auT n e back next hits roots i [(9,.sl 8 0 n n 1 true),(39,i64 n),(40,i64 (c:Int))]),⟨9,(8,jl n row)::auH ss (r::rs) (m::ms)⟩⟩)
    (λc ss row=>ix next cur (n-c) c ss row=some (row',ss')∧c<=n∧row.length=c∧ss≠[]∧ss.length<=400∧(∀ s∈ss,s.length=next.length)∧ss[i]?=some cur) (λc _ _=>n-c) 0 ss [] ⟨hrow,by omega,rfl,hne,hss,hsl,hcur⟩ ?_ ?_
   ·exact lq [(0,_),(1,_),(2,_),(3,_),(4,_),(5,_),(6,_),(7,_),(8,_)] []
   clear hrow hss hsl hcur hne hi hlt;intro c ss row ⟨hrow,hcn,hrl,hne,hss,hsl,hcur⟩;have hgi:(ss.flatMap nA)[i]?=some (bz cur):=by rw[aN];simp[hcur]
   have hil:i<ss.length:=(List.getElem?_eq_some_iff.1 hcur).1;by_cases hc:c<n
   ·repeat' ((conv=>whnf);first|exact kQ|(refine bk ?_ ?_<;>intro _<;>try(exfalso;omega))|refine stq ?_|fail)
    refine aH.by aB T0 (λk:Nat=>⟨tmp 119 (auT n e back next hits roots i [(9,.sl 8 0 n n 1 true),(10,i64 (c:Int)),(11,.sl 9 0 next.length next.length 1 true),(39,i64 n),(40,i64 (c:Int)),(52,bG next),(53,i64 next.length),(54,i64 (k:Int))]),⟨10,(9,GK next.length k (nxB next cur c))::(8,jl n row)::auH ss (r::rs) (m::ms)⟩⟩)
     (λk=>k<=next.length) (λk=>next.length-k) 0 om ?_ ?_
    ·exact lq [(0,_),(1,_),(2,_),(3,_),(4,_),(5,_),(6,_),(7,_),(8,_),(9,_)] []
    intro k hk;by_cases hk2:k<next.length
    ·have hrk:=hr _ (kM hk2);have hck:c<next[k].length:=by omega
     have hx2:next[k][c]<cur.length:=by rw[hcl];exact hrk.2 _ (kM hck)
     have hg:=AM hk2 hck hx2;repeat' ((conv=>whnf);first|exact kQ|(refine bk ?_ ?_<;>intro _<;>try(exfalso;omega))|refine stq ?_|refine ac.by (id:=17) aB T0 [0,0,0,0,12,28,0,0,192,448,1020,2044,4095,8191] (by kernel_rfl) ?_|refine Get.one hgi ?_|refine Put.one (by simp;omega) ?_|fail)
     all_goals(conv=>whnf)
     refine⟨k+1,by omega,by omega,?_⟩;exact lq [(0,_),(1,_),(2,_),(3,_),(4,_),(5,_),(6,_),(7,_),(8,_),(9,_)] []
    ·have hfin:(bF next.length λj=>boo (decide (j<k)&&(nxB next cur c).getD j false))=(nxB next cur c).map boo:=by
      have e:next.length=(nxB next cur c).length:=by simp
      rw[e];exact gz λj hj=>by rw[aK hj,decide_eq_true (by simp at hj;omega),Bool.true_and]
     have hfz:∀ {fz:Nat->Bool} {σ:Nat->Option Nat} {h:aA},fz 9=true->h.get 9=some (GK next.length k (nxB next cur c))->Rd h fz σ (.sl 9 0 next.length next.length 1 true) (bz (nxB next cur c)):=λh1 h2=>by
      have e:(nxB next cur c).length=next.length:=by simp
      unfold bz lst;rw[e];exact .frz h1 h2 si (.eqs (by rw[hfin,List.drop_zero,kE si]) (aS (λ_=>rfl) _))
     have hnc:n-c=(n-(c+1))+1:=by omega
     rw[hnc] at hrow;by_cases hs:nxB next cur c∈ss
     ·simp only[ix,hs,if_true] at hrow;repeat' ((conv=>whnf);first|exact kQ|(refine bk ?_ ?_<;>intro _<;>try(exfalso;omega))|refine stq ?_|refine Cll.emb (wX (s:=nxB next cur c) (by simp;omega) hs) [(0,1),(1,2),(2,3),(3,4)] [9] (i64 (ss.idxOf (nxB next cur c):Int)) [(1,.cells [.map 2] true),(2,.map (pos (jz ss) 0)),(3,.cells [.sl 4 0 ss.length ss.length 1 false] true),(4,.cells (ss.flatMap nA) false)] [(0,.cells [aM,aM] true),(8,jl n row),(5,.cells [aV 6 1 (r::rs),aV 7 1 (m::ms)] true),(6,.cells ((r::rs).flatMap ntC) false),(7,.cells ((m::ms).flatMap ntC) false)] rfl cm bxA rdA bxA reA ?_|refine Put.one (by simp;omega) ?_|fail)
      all_goals(conv=>whnf)
      refine⟨c+1,ss,row++[ss.idxOf (nxB next cur c)],⟨hrow,by omega,by simp[hrl],hne,hss,hsl,hcur⟩,by omega,?_⟩;exact lq [(0,_),(1,_),(2,_),(3,_),(4,_),(5,_),(6,_),(7,_),(8,_)] []
     ·by_cases hs4:ss.length<400
      ·simp only[ix,hs,if_false,hs4,if_true] at hrow;have hsl2:(ss++[nxB next cur c]).length=ss.length+1:=by simp
       repeat' ((conv=>whnf);first|exact kQ|(refine bk ?_ ?_<;>intro _<;>try(exfalso;omega))|refine stq ?_|refine Cll.emb (wY (s:=nxB next cur c) (by simp;omega) hne hs om) [(0,1),(1,2),(2,3),(3,4)] [9] (i64 (ss.length:Int)) [(1,.cells [.map 2] true),(2,.map (pos (jz (ss++[nxB next cur c])) 0)),(3,.cells [.sl 40 0 (ss++[nxB next cur c]).length (ss++[nxB next cur c]).length 1 false] true),(40,.cells ((ss++[nxB next cur c]).flatMap nA) false)] [(0,.cells [aM,aM] true),(8,jl n row),(5,.cells [aV 6 1 (r::rs),aV 7 1 (m::ms)] true),(6,.cells ((r::rs).flatMap ntC) false),(7,.cells ((m::ms).flatMap ntC) false)] rfl cm bxA rdA bxA reA ?_|refine Put.one (by simp;omega) ?_|fail)
       all_goals(conv=>whnf)
       refine⟨c+1,ss++[nxB next cur c],row++[ss.length],⟨hrow,by omega,by simp[hrl],by simp,by simp;omega,λs hs=>?_,by rw[List.getElem?_append_left hil];exact hcur⟩,by omega,?_⟩
       ·rcases List.mem_append.1 hs with hs|hs
        ·exact hsl s hs
        ·simp at hs;subst hs;simp
       exact lq [(0,_),(1,_),(2,_),(3,_),(4,_),(5,_),(6,_),(7,_),(8,_)] []
      ·simp only[ix,hs,if_false,hs4] at hrow;cases hrow
   ·rw[show n-c=0 from by omega] at hrow;simp only[ix,kA,kB] at hrow;obtain⟨rfl,rfl⟩:=hrow;obtain rfl:c=n:=by omega
    repeat' ((conv=>whnf);first|exact kQ|(refine bk ?_ ?_<;>intro _<;>try(exfalso;omega))|refine stq ?_|fail)
    refine aH.by2 aB T0 (λ(k:Nat) (mk:List Nat)=>⟨tmp 119 (auT c e back next hits roots i [(9,.sl 8 0 c c 1 true),(14,aV 9 1 mk),(87,c6 roots),(88,i64 roots.length),(89,i64 (k:Int))]),⟨10,cK 9 (λk=>[cE k]) mk++((8,jl c row)::auH ss (r::rs) (m::ms))⟩⟩)
     (λk mk=>k<=roots.length∧mk=gn cur (roots.take k) 0) (λk _=>roots.length-k) 0 [] ⟨by omega,by simp[gn]⟩ ?_ ?_
    ·exact lq [(0,_),(1,_),(2,_),(3,_),(4,_),(5,_),(6,_),(7,_),(8,_)] []
    intro k mk ⟨hk,hmk1⟩;have hmkl:mk.length<=roots.length:=by rw[hmk1];exact Nat.le_trans (qr _ _) (by simp;omega)
    by_cases hk2:k<roots.length
    ·have hrk:=hrt _ (kM hk2);rw[<-hcl] at hrk;have hsu:=tB hk2 hrk;rw[<-hmk1] at hsu;cases hb:cur[roots[k]] with
     | true=>
      rw[hb] at hsu;cases mk with
      | nil=>
       repeat' ((conv=>whnf);first|refine Idx.atE (d:=boo true) roots[k] rfl hrk (by rw[hb]) ?_|exact kQ|(refine bk ?_ ?_<;>intro _<;>try(exfalso;omega))|refine stq ?_|refine Get.one hgi ?_|fail)
       all_goals(conv=>whnf)
       refine⟨k+1,[k],⟨by omega,by rw[hsu];rfl⟩,by omega,?_⟩;exact lq [(0,_),(1,_),(2,_),(3,_),(4,_),(5,_),(6,_),(7,_),(8,_),(9,_)] []
      | cons y ys=>
       have hy2:(y::ys).length=ys.length+1:=rfl;repeat' ((conv=>whnf);first|refine Idx.atE (d:=boo true) roots[k] rfl hrk (by rw[hb]) ?_|exact kQ|(refine bk ?_ ?_<;>intro _<;>try(exfalso;omega))|refine stq ?_|refine Get.one hgi ?_|fail)
       all_goals(conv=>whnf)
       refine⟨k+1,(y::ys)++[k],⟨by omega,by rw[hsu];rfl⟩,by omega,?_⟩;exact lq [(0,_),(1,_),(2,_),(3,_),(4,_),(5,_),(6,_),(7,_),(8,_),(9,_)] []
     | false=>
      rw[hb] at hsu;cases mk with
      | nil=>
       repeat' ((conv=>whnf);first|refine Idx.atE (d:=boo false) roots[k] rfl hrk (by rw[hb]) ?_|exact kQ|(refine bk ?_ ?_<;>intro _<;>try(exfalso;omega))|refine stq ?_|refine Get.one hgi ?_|fail)
       all_goals(conv=>whnf)
       refine⟨k+1,[],⟨by omega,by rw[hsu];rfl⟩,by omega,?_⟩;exact lq [(0,_),(1,_),(2,_),(3,_),(4,_),(5,_),(6,_),(7,_),(8,_)] []
      | cons y ys=>
       repeat' ((conv=>whnf);first|refine Idx.atE (d:=boo false) roots[k] rfl hrk (by rw[hb]) ?_|exact kQ|(refine bk ?_ ?_<;>intro _<;>try(exfalso;omega))|refine stq ?_|refine Get.one hgi ?_|fail)
       all_goals(conv=>whnf)
       refine⟨k+1,y::ys,⟨by omega,by rw[hsu];simp⟩,by omega,?_⟩;exact lq [(0,_),(1,_),(2,_),(3,_),(4,_),(5,_),(6,_),(7,_),(8,_),(9,_)] []
    ·have hmk2:mk=gn cur roots 0:=by rw[hmk1,kE om]
     cases mk with
     | nil=>
      repeat' ((conv=>whnf);first|exact kQ|(refine bk ?_ ?_<;>intro _<;>try(exfalso;omega))|refine stq ?_|fail)
      all_goals(conv=>whnf)
      refine⟨⟨f,i+1,ss,(r::rs)++[row],(m::ms)++[[]]⟩,⟨by rw[hmk2];exact h1,hne,hss,hsl,by dsimp only;have:=(List.getElem?_eq_some_iff.1 hcur).1;omega,by dsimp only;rw[kG,hrw];rfl,by dsimp only;rw[kG,hmk];rfl⟩,by dsimp only;omega,?_⟩;exact lq [(0,_),(1,_),(2,_),(3,_),(4,_),(5,_),(6,_),(7,_)] [8,9]
     | cons y ys=>
      repeat' ((conv=>whnf);first|exact kQ|(refine bk ?_ ?_<;>intro _<;>try(exfalso;omega))|refine stq ?_|fail)
      all_goals(conv=>whnf)
      refine⟨⟨f,i+1,ss,(r::rs)++[row],(m::ms)++[(y::ys)]⟩,⟨by rw[hmk2];exact h1,hne,hss,hsl,by dsimp only;have:=(List.getElem?_eq_some_iff.1 hcur).1;omega,by dsimp only;rw[kG,hrw];rfl,by dsimp only;rw[kG,hmk];rfl⟩,by dsimp only;omega,?_⟩;exact lq [(0,_),(1,_),(2,_),(3,_),(4,_),(5,_),(6,_),(7,_)] [8,9]
 ·have h2:ss[i]?=none:=List.getElem?_eq_none om;simp only[ic,h2,kA,kB] at h1;obtain⟨rfl,rfl⟩:=h1;cases rows with
  | nil=>
   obtain rfl:marks=[]:=List.eq_nil_of_length_eq_zero (l:=marks) (by simp at hrw;omega);repeat' ((conv=>whnf);first|exact kQ|(refine bk ?_ ?_<;>intro _<;>try(exfalso;omega))|refine stq ?_|fail)
   all_goals(conv=>whnf)
   exact⟨.tup (.cons (.agg (.cons .nil (.cons .nil .nil))) (.cons (.same rfl) .nil))⟩
  | cons r rs=>
   obtain⟨m,ms,rfl⟩:=kI (show 0<marks.length by simp at hrw;omega);repeat' ((conv=>whnf);first|exact kQ|(refine bk ?_ ?_<;>intro _<;>try(exfalso;omega))|refine stq ?_|fail)
   all_goals(conv=>whnf)
   exact⟨.tup (.cons (.agg (.cons (rE (l:=r::rs) rfl rfl) (.cons (rE (l:=m::ms) rfl rfl) .nil))) (.cons (.same rfl) .nil))⟩
end Go.Proofs.YtpgcjpcenaefpaaGreatDoor
