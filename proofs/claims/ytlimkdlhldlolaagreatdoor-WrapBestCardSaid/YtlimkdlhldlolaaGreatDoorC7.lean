/-
  Contracts of functions over data: the automaton of a machine.
-/
import Derived.Test.YtlimkdlhldlolaaGreatDoorC0
set_option linter.unusedSectionVars false
namespace Go.Proofs.YtlimkdlhldlolaaGreatDoor
open Go Go.Am Classical
set_option maxRecDepth 100000
theorem xC7.rdX {p:Prop}(h:p:=by first|exact Rd.same (Ci _ _ _ _ _ _)|exact Rd.fn Rds.nil (Rds.cons (Rd.ptr rfl) (Rds.cons (Rd.ptr rfl) Rds.nil))|exact Rd.same (aw _)|exact hfz rfl rfl|exact Rd.own (l:=(y::ys)++[k]) sim rfl sim sim|exact Rd.own (l:=[]++[row]) sim rfl sim sim|exact Rd.own (l:=[]++[[]]) sim rfl sim sim|exact Rd.own (l:=[]++[(y::ys)]) sim rfl sim sim|exact Rd.own (l:=(r::rs)++[row]) sim rfl sim sim|exact Rd.own (l:=(m::ms)++[[]]) sim rfl sim sim|exact Rd.own (l:=(m::ms)++[(y::ys)]) sim rfl sim sim|fail):p:=h
theorem xC7.rbX {p:Prop}(h:p:=by first|exact Rb.cells (Rds.same (zr (aw _))) rfl|exact Rb.cells (Rds.same (ab (λ_=>rfl))) rfl|exact Rb.cells (Rds.eqs (Aw hrl) (ab (λ_=>rfl))) rfl|exact Rb.cells (Rds.eqs (aQ (c:=λk=>[cR k]) (by intro _;rfl) (y::ys) _) (aE (by intro _;rfl) _)) rfl|exact Rb.cells (Rds.cons (pd rfl rfl hrl) Rds.nil) rfl|exact Rb.cells (Rds.cons (vS (l:=y::ys) rfl rfl) Rds.nil) rfl|exact Rb.cells (Rds.cons Rd.nil Rds.nil) rfl|exact Rb.cells (mu (l:=r::rs) (pd rfl rfl hrl)) rfl|exact Rb.cells (mu (l:=m::ms) (vS (l:=y::ys) rfl rfl)) rfl|exact Rb.cells (mu (l:=m::ms) (r:=[]) Rd.nil) rfl|exact Rb.map (Res.same (dZ _ _))|exact Rb.cells (Rds.eqs (a8 om (λi _=>by first|(simp;done)|fail)) (ab (λ_=>rfl))) rfl|exact Rb.cells (Rds.eqs (bG (by first|(rw[hg];simp;done)|fail) (λi _ hi=>by first|(simp only[show(decide (i<k+1))=(decide (i<k)) from by rw[decide_eq_decide];omega];done)|fail)) (ab (λ_=>rfl))) rfl|fail):p:=h
open xC7
variable [GT]
abbrev bN (l:List (List Nat)):D:=lst dI l
theorem eR (l:List (List Nat)):aK (bN l)=true:=gI b9 l
abbrev ntC (r:List Nat):List D:=[dI r]
theorem zt (s:List Bool):aF (ng s)=true:=by simp[aF,aw]
theorem tT (s:List Nat):aF (ntC s)=true:=by simp[aF,b9]
def nxB (next:List (List Nat)) (cur:List Bool) (c:Nat):List Bool:=next.map λr=>cur.getD (r.getD c 0) false
@[simp] theorem nxB_len {next:List (List Nat)} {cur:List Bool} {c:Nat}:(nxB next cur c).length=next.length:=by simp[nxB]
def jK (next:List (List Nat)) (cur:List Bool):Nat->Nat->List (List Bool)->List Nat->Option (List Nat×List (List Bool))
 | 0,_,ss,row=>some (row,ss)
 | k+1,c,ss,row=>
  if nxB next cur c∈ss then jK next cur k (c+1) ss (row++[ss.idxOf (nxB next cur c)])
  else if ss.length<400 then jK next cur k (c+1) (ss++[nxB next cur c]) (row++[ss.length]) else none
def iA (cur:List Bool):List Nat->Nat->List Nat
 | [],_=>[]
 | r::l,i=>if cur.getD r false then i::iA cur l (i+1) else iA cur l (i+1)
def i8 (n:Nat) (next:List (List Nat)) (roots:List Nat):Nat->Nat->List (List Bool)->List (List Nat)->List (List Nat)->Option (List (List Nat)×List (List Nat))
 | 0,_,_,_,_=>none
 | f+1,i,ss,rows,marks=>
  match ss[i]? with
  | none=>some (rows,marks)
  | some cur=>
   match jK next cur n 0 ss [] with
   | none=>none
   | some (row,ss')=>i8 n next roots f (i+1) ss' (rows++[row]) (marks++[iA cur roots 0])
theorem oz {cur:List Bool}:∀ (l m:List Nat) (i:Nat),iA cur (l++m) i=iA cur l i++iA cur m (i+l.length)
 | [],m,i=>by simp[iA]
 | r::l,m,i=>by
  simp only[List.cons_append,iA,kO,oz l m (i+1),show i+1+l.length=i+(l.length+1) from om];split<;>simp
theorem qt {cur:List Bool}:∀ (l:List Nat) (i:Nat),(iA cur l i).length<=l.length
 | [],i=>by simp[iA]
 | r::l,i=>by
  have:=qt (cur:=cur) l (i+1)
  simp only[iA];split<;>simp<;>omega
theorem Fj {ss:List (List Bool)}{s:List Bool}:(kl ss).idxOf (jv s)=ss.idxOf s:=by
 induction ss with
 | nil=>rfl
 | cons t ts ih=>
  simp only[kl,List.map_cons,List.idxOf_cons] at ih ⊢;by_cases h:t=s
  .subst h;simp
  .have h2:¬jv t=jv s:=λe=>h (rQ e)
   rw[beq_eq_false_iff_ne.2 h,beq_eq_false_iff_ne.2 h2];simp only[cond_false,ih]
abbrev auN (ss:List (List Bool)):List (Nat×Box):=[(0,.cells [.map 1] true),(1,.map (pos (kl ss) 0)),(2,.cells [.sl 3 0 ss.length ss.length 1 false] true),(3,.cells (ss.flatMap ng) false)]
theorem xE {ss:List (List Bool)}{s:List Bool}(hl:s.length<=1000000) (hs:s∈ss) :
  AC1 Tryz.prog 152 [ap s,.ptr 0 0,.ptr 2 0] ⟨4,auN ss⟩ (i64 (ss.idxOf s:Int)) ⟨20,auN ss⟩:=by
 have:=zm hl hs
 rw[Fj] at this;cases ss with
 | nil=>simp at hs
 | cons t ts=>exact this
theorem xF {ss:List (List Bool)}{s:List Bool}(hl:s.length<=1000000) (h0:ss≠[]) (hs:¬s∈ss) (hn:ss.length<=1000000) :
  AC1 Tryz.prog 152 [ap s,.ptr 0 0,.ptr 2 0] ⟨4,auN ss⟩ (i64 (ss.length:Int)) ⟨32,auR ss s⟩:=by
 have:=tR hl hs hn
 cases ss with
 | nil=>simp at h0
 | cons t ts=>exact this
abbrev FL (n e:Nat) (back:Bool) (next:List (List Nat)) (hits:List Bool) (roots:List Nat):List D:=[i64 n,i64 e,boo back,bN next,ap hits,dI roots]
abbrev auT (n e:Nat) (back:Bool) (next:List (List Nat)) (hits:List Bool) (roots:List Nat) (i:Nat) (tl:List (Nat×D)):List (Nat×D):=
 (0,.iptr (FL n e back next hits roots))::(2,.ptr 0 0)::(5,.ptr 3 0)::(6,.fn (.func 152) [] [.ptr 1 0,.ptr 3 0])::(7,.ptr 5 0)::(8,i64 (i:Int))::tl
abbrev auH (ss:List (List Bool)) (rows marks:List (List Nat)):List (Nat×Box):=
 (0,.cells [aJ,aJ] true)::(1,.cells [.map 2] true)::(2,.map (pos (kl ss) 0))::(3,.cells [.sl 4 0 ss.length ss.length 1 false] true)::(4,.cells (ss.flatMap ng) false)::(5,.cells [aP 6 1 rows,aP 7 1 marks] true)::(bS 6 ntC rows++bS 7 ntC marks)
theorem Ci (n e:Nat) (back:Bool) (next:List (List Nat)) (hits:List Bool) (roots:List Nat):aK (.iptr (FL n e back next hits roots))=true:=by simp[aK,aF,eR,b9,aw]
theorem zr {d:D}(h:aK d=true):aF [d]=true:=by simp[aF,h]
structure ASt where
 f:Nat
 i:Nat
 ss:List (List Bool)
 rows:List (List Nat)
 marks:List (List Nat)
abbrev kR (n:Nat) (row:List Nat):Box:=.cells (aT n λj=>i64 ((row.getD j 0:Nat):Int)) true
abbrev HQ (N k:Nat) (s:List Bool):Box:=.cells (aT N λj=>boo (decide (j<k)&&s.getD j false)) true
theorem Fq {l:List Nat}{x j:Nat}(h:j≠l.length):(l++[x]).getD j 0=l.getD j 0:=by
 rcases(by omega:j<l.length\/l.length<j) with h1|h1
 .rw[aH (by simp;omega),aH h1,List.getElem_append_left h1]
 .simp only[List.getD];rw[List.getElem?_eq_none (by simp;omega),List.getElem?_eq_none om]
theorem Fp {l:List Nat}{x j:Nat}(h:j=l.length):(l++[x]).getD j 0=x:=by
 subst h;simp[List.getD]
theorem BA {next:List (List Nat)}{cur:List Bool}{c k:Nat}(h1:k<next.length) (h2:c<next[k].length) (h3:next[k][c]<cur.length):(nxB next cur c).getD k false=cur[next[k][c]]:=by
 rw[aH (by simpa using h1)];simp only[nxB,List.getElem_map];rw[aH h2,aH h3]
theorem Aw {n c x:Nat}{row:List Nat}(h:row.length=c):(aT n λj=>i64 ((row.getD j 0:Nat):Int)).set c (i64 (x:Int))=aT n λj=>i64 (((row++[x]).getD j 0:Nat):Int):=
 bG (by rw[Fp h.symm]) (λj _ hj=>by rw[Fq om])
section
variable {h:aA}{fz:Nat->Bool}{σ:Nat->Option Nat}
theorem mu {l:List (List Nat)}{r:List Nat}{d:D}(hd:Rd h fz σ d (dI r)):Rds h fz σ (((l.flatMap ntC).drop 0).take (l.length*1)++[d]) ((l++[r]).flatMap ntC):=by
 rw[List.flatMap_append];refine Rds.app (.eqs ?_ (aE tT _)) (.cons hd .nil);rw[List.drop_zero,kE (by rw[aa (sz:=1) (λ_=>rfl)];exact kP _)]
theorem pd {id n:Nat}{row:List Nat}{ex:Bool}(hf:fz id=true) (hg:h.get id=some (kR n row)) (hl:row.length=n):Rd h fz σ (.sl id 0 n n 1 ex) (dI row):=by
 subst hl;refine .frz hf hg si (.eqs ?_ (aU (λ_=>rfl) _));rw[List.drop_zero,kE si];exact ct λi hi=>by rw[aH hi]
theorem vS {id:Nat}{l:List Nat}{ex bx:Bool}(hf:fz id=true) (hg:h.get id=some (.cells (l.flatMap λk=>[cR k]) bx)):Rd h fz σ (.sl id 0 l.length l.length 1 ex) (dI l):=by
 refine .frz hf hg (by rw[aN];simp) (.eqs ?_ (aU (λ_=>rfl) _));rw[List.drop_zero,kE (by rw[aN];simp),aN]
theorem rM {id:Nat}{l:List (List Nat)}{ex bx:Bool}(hf:fz id=true) (hg:h.get id=some (.cells (l.flatMap ntC) bx)):Rd h fz σ (.sl id 0 l.length l.length 1 ex) (bN l):=by
 refine .frz hf hg (by rw[aN];simp) (.eqs ?_ (aU b9 _));rw[List.drop_zero,kE (by rw[aN];simp),aN]
end
theorem tW {cur:List Bool}{roots:List Nat}{k:Nat}(h:k<roots.length) (h2:roots[k]<cur.length):iA cur (roots.take (k+1)) 0=iA cur (roots.take k) 0++(if cur[roots[k]] then [k] else []):=by
 rw[bI h,oz,List.length_take,Nat.min_eq_left om];simp only[iA,aH h2,Nat.zero_add]
set_option maxHeartbeats 4000000 in
theorem aut_c {n e:Nat}{back:Bool}{next:List (List Nat)}{hits:List Bool}{roots:List Nat}{R M:List (List Nat)}{F:Nat}(hn:n<=1000) (hx:next.length<=100000) (hh:hits.length=next.length) (hro:roots.length<=100000)
  (hr:∀ r∈next,r.length=n/\∀ x∈r,x<next.length) (hrt:∀ x∈roots,x<next.length) (h:i8 n next roots F 0 [hits] [] []=some (R,M)) :
  Pu Tryz.prog 109 [.iptr (FL n e back next hits roots)] (.tup [.agg [bN R,bN M],boo true]):=by
 refine pv Tryz.func109 ?_;repeat' ((conv=>whnf);first|exact kQ|(refine bk ?_ ?_<;>intro _<;>try exact exo)|refine stq ?_|refine Cll.emb (tR (ss:=[]) (s:=hits) om si si) [(0,3),(1,2),(2,5)] [] (i64 (0:Int)) [(3,.cells [.map 2] true),(2,.map (pos (kl [hits]) 0)),(5,.cells [.sl 38 0 1 1 1 false] true),(38,.cells [ap hits] false)] [(0,.cells [aJ,aJ] true)] rfl cO bxA rdA bxA reA ?_|fail)
 refine aG.by aB T0 (λa:ASt=>⟨tmp 119 (auT n e back next hits roots a.i []),⟨8,auH a.ss a.rows a.marks⟩⟩)
  (λa=>i8 n next roots a.f a.i a.ss a.rows a.marks=some (R,M)/\a.ss≠[]/\a.ss.length<=400/\(∀ s∈a.ss,s.length=next.length)/\a.i<=a.ss.length/\a.rows.length=a.i/\a.marks.length=a.i) (λa=>a.f) ⟨F,0,[hits],[],[]⟩ ⟨h,si,si,by simp[hh],si,rfl,rfl⟩ ?_ ?_
 .exact lq [(0,_),(1,_),(2,_),(3,_),(4,_),(5,_)] []
 clear h;intro⟨f,i,ss,rows,marks⟩ ⟨h1,hne,hss,hsl,hi,hrw,hmk⟩;dsimp only at h1 hne hss hsl hi hrw hmk ⊢;cases f with
 | zero=>simp[i8] at h1
 | succ f=>
 by_cases hlt:i<ss.length
 .have hcur:ss[i]?=some ss[i]:=List.getElem?_eq_getElem hlt;generalize hgc:ss[i]=cur at hcur;simp only[i8,hcur] at h1;have hcl:cur.length=next.length:=by rw[<-hgc];exact hsl _ (kM hlt)
  clear hgc;cases hrow:jK next cur n 0 ss [] with
  | none=>simp[hrow] at h1
  | some p=>
  obtain⟨row',ss'⟩:=p;simp only[hrow] at h1;cases rows with
  | nil=>
   obtain rfl:marks=[]:=List.eq_nil_of_length_eq_zero (l:=marks) (by simp at hrw;omega);repeat' ((conv=>whnf);first|exact kQ|(refine bk ?_ ?_<;>intro _<;>try exact exo)|refine stq ?_|fail)
   refine aG.by3 aB T0 (λ(c:Nat) (ss:List (List Bool)) (row:List Nat)=>⟨tmp 119 (auT n e back next hits roots i [(9,.sl 8 0 n n 1 true),(39,i64 n),(40,i64 (c:Int))]),⟨9,(8,kR n row)::auH ss [] []⟩⟩)
    (λc ss row=>jK next cur (n-c) c ss row=some (row',ss')/\c<=n/\row.length=c/\ss≠[]/\ss.length<=400/\(∀ s∈ss,s.length=next.length)/\ss[i]?=some cur) (λc _ _=>n-c) 0 ss [] ⟨hrow,om,rfl,hne,hss,hsl,hcur⟩ ?_ ?_
   .exact lq [(0,_),(1,_),(2,_),(3,_),(4,_),(5,_),(8,_)] []
   clear hrow hss hsl hcur hne hi hlt;intro c ss row ⟨hrow,hcn,hrl,hne,hss,hsl,hcur⟩;have hgi:(ss.flatMap ng)[i]?=some (ap cur):=by rw[aN];simp[hcur]
   have hil:i<ss.length:=(List.getElem?_eq_some_iff.1 hcur).1;by_cases hc:c<n
   .repeat' ((conv=>whnf);first|exact kQ|(refine bk ?_ ?_<;>intro _<;>try exact exo)|refine stq ?_|fail)
    refine aG.by aB T0 (λk:Nat=>⟨tmp 119 (auT n e back next hits roots i [(9,.sl 8 0 n n 1 true),(10,i64 (c:Int)),(11,.sl 9 0 next.length next.length 1 true),(39,i64 n),(40,i64 (c:Int)),(52,bN next),(53,i64 next.length),(54,i64 (k:Int))]),⟨10,(9,HQ next.length k (nxB next cur c))::(8,kR n row)::auH ss [] []⟩⟩)
     (λk=>k<=next.length) (λk=>next.length-k) 0 om ?_ ?_
    .exact lq [(0,_),(1,_),(2,_),(3,_),(4,_),(5,_),(8,_),(9,_)] []
    intro k hk;by_cases hk2:k<next.length
    .have hrk:=hr _ (kM hk2);have hck:c<next[k].length:=om
     have hx2:next[k][c]<cur.length:=by rw[hcl];exact hrk.2 _ (kM hck)
     have hg:=BA hk2 hck hx2;repeat' ((conv=>whnf);first|exact kQ|(refine bk ?_ ?_<;>intro _<;>try exact exo)|refine stq ?_|refine ac.by (id:=17) aB T0 [0,0,0,0,12,28,0,0,192,448,1020,2044,4095,8191] (by kernel_rfl) ?_|refine Get.one hgi ?_|refine Put.one (by simp;omega) ?_|fail)
     (conv=>whnf)
     refine⟨k+1,om,om,?_⟩;exact lq [(0,_),(1,_),(2,_),(3,_),(4,_),(5,_),(8,_),(9,_)] []
    .have hfin:(aT next.length λj=>boo (decide (j<k)&&(nxB next cur c).getD j false))=(nxB next cur c).map boo:=by
      have e:next.length=(nxB next cur c).length:=by simp
      rw[e];exact ct λj hj=>by rw[aH hj,decide_eq_true (by simp at hj;omega),Bool.true_and]
     have hfz:∀ {fz:Nat->Bool} {σ:Nat->Option Nat} {h:aA},fz 9=true->h.get 9=some (HQ next.length k (nxB next cur c))->Rd h fz σ (.sl 9 0 next.length next.length 1 true) (ap (nxB next cur c)):=λh1 h2=>by
      have e:(nxB next cur c).length=next.length:=by simp
      unfold ap lst;rw[e];exact .frz h1 h2 si (.eqs (by rw[hfin,List.drop_zero,kE si]) (aU (λ_=>rfl) _))
     have hnc:n-c=(n-(c+1))+1:=by omega
     rw[hnc] at hrow;by_cases hs:nxB next cur c∈ss
     .simp only[jK,hs,if_true] at hrow;repeat' ((conv=>whnf);first|exact kQ|(refine bk ?_ ?_<;>intro _<;>try exact exo)|refine stq ?_|refine Cll.emb (xE (s:=nxB next cur c) (by simp;omega) hs) [(0,1),(1,2),(2,3),(3,4)] [9] (i64 (ss.idxOf (nxB next cur c):Int)) [(1,.cells [.map 2] true),(2,.map (pos (kl ss) 0)),(3,.cells [.sl 4 0 ss.length ss.length 1 false] true),(4,.cells (ss.flatMap ng) false)] [(0,.cells [aJ,aJ] true),(8,kR n row),(5,.cells [aP 6 1 [],aP 7 1 []] true)] rfl cO bxA rdA bxA reA ?_|refine Put.one (by simp;omega) ?_|fail)
      (conv=>whnf)
      refine⟨c+1,ss,row++[ss.idxOf (nxB next cur c)],⟨hrow,om,by simp[hrl],hne,hss,hsl,hcur⟩,om,?_⟩;exact lq [(0,_),(1,_),(2,_),(3,_),(4,_),(5,_),(8,_)] []
     .by_cases hs4:ss.length<400
      .simp only[jK,hs,if_false,hs4,if_true] at hrow;have hsl2:(ss++[nxB next cur c]).length=ss.length+1:=by simp
       repeat' ((conv=>whnf);first|exact kQ|(refine bk ?_ ?_<;>intro _<;>try exact exo)|refine stq ?_|refine Cll.emb (xF (s:=nxB next cur c) (by simp;omega) hne hs om) [(0,1),(1,2),(2,3),(3,4)] [9] (i64 (ss.length:Int)) [(1,.cells [.map 2] true),(2,.map (pos (kl (ss++[nxB next cur c])) 0)),(3,.cells [.sl 40 0 (ss++[nxB next cur c]).length (ss++[nxB next cur c]).length 1 false] true),(40,.cells ((ss++[nxB next cur c]).flatMap ng) false)] [(0,.cells [aJ,aJ] true),(8,kR n row),(5,.cells [aP 6 1 [],aP 7 1 []] true)] rfl cO bxA rdA bxA reA ?_|refine Put.one (by simp;omega) ?_|fail)
       (conv=>whnf)
       refine⟨c+1,ss++[nxB next cur c],row++[ss.length],⟨hrow,om,by simp[hrl],si,by simp;omega,λs hs=>?_,by rw[List.getElem?_append_left hil];exact hcur⟩,om,?_⟩
       .rcases List.mem_append.1 hs with hs|hs
        .exact hsl s hs
        .simp at hs;subst hs;simp
       exact lq [(0,_),(1,_),(2,_),(3,_),(4,_),(5,_),(8,_)] []
      .simp only[jK,hs,if_false,hs4] at hrow;cases hrow
   .rw[show n-c=0 from om] at hrow;simp only[jK,kA,kB] at hrow;obtain⟨rfl,rfl⟩:=hrow;obtain rfl:c=n:=by omega
    repeat' ((conv=>whnf);first|exact kQ|(refine bk ?_ ?_<;>intro _<;>try exact exo)|refine stq ?_|fail)
    refine aG.by2 aB T0 (λ(k:Nat) (mk:List Nat)=>⟨tmp 119 (auT c e back next hits roots i [(9,.sl 8 0 c c 1 true),(14,aP 9 1 mk),(87,dI roots),(88,i64 roots.length),(89,i64 (k:Int))]),⟨10,bS 9 (λk=>[cR k]) mk++((8,kR c row)::auH ss [] [])⟩⟩)
     (λk mk=>k<=roots.length/\mk=iA cur (roots.take k) 0) (λk _=>roots.length-k) 0 [] ⟨om,by simp[iA]⟩ ?_ ?_
    .exact lq [(0,_),(1,_),(2,_),(3,_),(4,_),(5,_),(8,_)] []
    intro k mk ⟨hk,hmk1⟩;have hmkl:mk.length<=roots.length:=by rw[hmk1];exact Nat.le_trans (qt _ _) (by simp;omega)
    by_cases hk2:k<roots.length
    .have hrk:=hrt _ (kM hk2);rw[<-hcl] at hrk;have hsu:=tW hk2 hrk;rw[<-hmk1] at hsu;cases hb:cur[roots[k]] with
     | true=>
      rw[hb] at hsu;cases mk with
      | nil=>
       repeat' ((conv=>whnf);first|refine Idx.atE (d:=boo true) roots[k] rfl hrk (by rw[hb]) ?_|exact kQ|(refine bk ?_ ?_<;>intro _<;>try exact exo)|refine stq ?_|refine Get.one hgi ?_|fail)
       (conv=>whnf)
       refine⟨k+1,[k],⟨om,by rw[hsu];rfl⟩,om,?_⟩;exact lq [(0,_),(1,_),(2,_),(3,_),(4,_),(5,_),(8,_),(9,_)] []
      | cons y ys=>
       have hy2:(y::ys).length=ys.length+1:=rfl;repeat' ((conv=>whnf);first|refine Idx.atE (d:=boo true) roots[k] rfl hrk (by rw[hb]) ?_|exact kQ|(refine bk ?_ ?_<;>intro _<;>try exact exo)|refine stq ?_|refine Get.one hgi ?_|fail)
       (conv=>whnf)
       refine⟨k+1,(y::ys)++[k],⟨om,by rw[hsu];rfl⟩,om,?_⟩;exact lq [(0,_),(1,_),(2,_),(3,_),(4,_),(5,_),(8,_),(9,_)] []
     | false=>
      rw[hb] at hsu;cases mk with
      | nil=>
       repeat' ((conv=>whnf);first|refine Idx.atE (d:=boo false) roots[k] rfl hrk (by rw[hb]) ?_|exact kQ|(refine bk ?_ ?_<;>intro _<;>try exact exo)|refine stq ?_|refine Get.one hgi ?_|fail)
       (conv=>whnf)
       refine⟨k+1,[],⟨om,by rw[hsu];rfl⟩,om,?_⟩;exact lq [(0,_),(1,_),(2,_),(3,_),(4,_),(5,_),(8,_)] []
      | cons y ys=>
       repeat' ((conv=>whnf);first|refine Idx.atE (d:=boo false) roots[k] rfl hrk (by rw[hb]) ?_|exact kQ|(refine bk ?_ ?_<;>intro _<;>try exact exo)|refine stq ?_|refine Get.one hgi ?_|fail)
       (conv=>whnf)
       refine⟨k+1,y::ys,⟨om,by rw[hsu];simp⟩,om,?_⟩;exact lq [(0,_),(1,_),(2,_),(3,_),(4,_),(5,_),(8,_),(9,_)] []
    .have hmk2:mk=iA cur roots 0:=by rw[hmk1,kE om]
     cases mk with
     | nil=>
      repeat' ((conv=>whnf);first|exact kQ|(refine bk ?_ ?_<;>intro _<;>try exact exo)|refine stq ?_|fail)
      (conv=>whnf)
      refine⟨⟨f,i+1,ss,[]++[row],[]++[[]]⟩,⟨by rw[hmk2];exact h1,hne,hss,hsl,by dsimp only;have:=(List.getElem?_eq_some_iff.1 hcur).1;omega,by dsimp only;rw[kG,hrw];rfl,by dsimp only;rw[kG,hmk];rfl⟩,by dsimp only;omega,?_⟩;exact lq [(0,_),(1,_),(2,_),(3,_),(4,_),(5,_),(6,_),(7,_)] [8,9]
     | cons y ys=>
      repeat' ((conv=>whnf);first|exact kQ|(refine bk ?_ ?_<;>intro _<;>try exact exo)|refine stq ?_|fail)
      (conv=>whnf)
      refine⟨⟨f,i+1,ss,[]++[row],[]++[(y::ys)]⟩,⟨by rw[hmk2];exact h1,hne,hss,hsl,by dsimp only;have:=(List.getElem?_eq_some_iff.1 hcur).1;omega,by dsimp only;rw[kG,hrw];rfl,by dsimp only;rw[kG,hmk];rfl⟩,by dsimp only;omega,?_⟩;exact lq [(0,_),(1,_),(2,_),(3,_),(4,_),(5,_),(6,_),(7,_)] [8,9]
  | cons r rs=>
   obtain⟨m,ms,rfl⟩:=kI (show 0<marks.length by simp at hrw;omega);repeat' ((conv=>whnf);first|exact kQ|(refine bk ?_ ?_<;>intro _<;>try exact exo)|refine stq ?_|fail)
   refine aG.by3 aB T0 (λ(c:Nat) (ss:List (List Bool)) (row:List Nat)=>⟨tmp 119 (auT n e back next hits roots i [(9,.sl 8 0 n n 1 true),(39,i64 n),(40,i64 (c:Int))]),⟨9,(8,kR n row)::auH ss (r::rs) (m::ms)⟩⟩)
    (λc ss row=>jK next cur (n-c) c ss row=some (row',ss')/\c<=n/\row.length=c/\ss≠[]/\ss.length<=400/\(∀ s∈ss,s.length=next.length)/\ss[i]?=some cur) (λc _ _=>n-c) 0 ss [] ⟨hrow,om,rfl,hne,hss,hsl,hcur⟩ ?_ ?_
   .exact lq [(0,_),(1,_),(2,_),(3,_),(4,_),(5,_),(6,_),(7,_),(8,_)] []
   clear hrow hss hsl hcur hne hi hlt;intro c ss row ⟨hrow,hcn,hrl,hne,hss,hsl,hcur⟩;have hgi:(ss.flatMap ng)[i]?=some (ap cur):=by rw[aN];simp[hcur]
   have hil:i<ss.length:=(List.getElem?_eq_some_iff.1 hcur).1;by_cases hc:c<n
   .repeat' ((conv=>whnf);first|exact kQ|(refine bk ?_ ?_<;>intro _<;>try exact exo)|refine stq ?_|fail)
    refine aG.by aB T0 (λk:Nat=>⟨tmp 119 (auT n e back next hits roots i [(9,.sl 8 0 n n 1 true),(10,i64 (c:Int)),(11,.sl 9 0 next.length next.length 1 true),(39,i64 n),(40,i64 (c:Int)),(52,bN next),(53,i64 next.length),(54,i64 (k:Int))]),⟨10,(9,HQ next.length k (nxB next cur c))::(8,kR n row)::auH ss (r::rs) (m::ms)⟩⟩)
     (λk=>k<=next.length) (λk=>next.length-k) 0 om ?_ ?_
    .exact lq [(0,_),(1,_),(2,_),(3,_),(4,_),(5,_),(6,_),(7,_),(8,_),(9,_)] []
    intro k hk;by_cases hk2:k<next.length
    .have hrk:=hr _ (kM hk2);have hck:c<next[k].length:=om
     have hx2:next[k][c]<cur.length:=by rw[hcl];exact hrk.2 _ (kM hck)
     have hg:=BA hk2 hck hx2;repeat' ((conv=>whnf);first|exact kQ|(refine bk ?_ ?_<;>intro _<;>try exact exo)|refine stq ?_|refine ac.by (id:=17) aB T0 [0,0,0,0,12,28,0,0,192,448,1020,2044,4095,8191] (by kernel_rfl) ?_|refine Get.one hgi ?_|refine Put.one (by simp;omega) ?_|fail)
     (conv=>whnf)
     refine⟨k+1,om,om,?_⟩;exact lq [(0,_),(1,_),(2,_),(3,_),(4,_),(5,_),(6,_),(7,_),(8,_),(9,_)] []
    .have hfin:(aT next.length λj=>boo (decide (j<k)&&(nxB next cur c).getD j false))=(nxB next cur c).map boo:=by
      have e:next.length=(nxB next cur c).length:=by simp
      rw[e];exact ct λj hj=>by rw[aH hj,decide_eq_true (by simp at hj;omega),Bool.true_and]
     have hfz:∀ {fz:Nat->Bool} {σ:Nat->Option Nat} {h:aA},fz 9=true->h.get 9=some (HQ next.length k (nxB next cur c))->Rd h fz σ (.sl 9 0 next.length next.length 1 true) (ap (nxB next cur c)):=λh1 h2=>by
      have e:(nxB next cur c).length=next.length:=by simp
      unfold ap lst;rw[e];exact .frz h1 h2 si (.eqs (by rw[hfin,List.drop_zero,kE si]) (aU (λ_=>rfl) _))
     have hnc:n-c=(n-(c+1))+1:=by omega
     rw[hnc] at hrow;by_cases hs:nxB next cur c∈ss
     .simp only[jK,hs,if_true] at hrow;repeat' ((conv=>whnf);first|exact kQ|(refine bk ?_ ?_<;>intro _<;>try exact exo)|refine stq ?_|refine Cll.emb (xE (s:=nxB next cur c) (by simp;omega) hs) [(0,1),(1,2),(2,3),(3,4)] [9] (i64 (ss.idxOf (nxB next cur c):Int)) [(1,.cells [.map 2] true),(2,.map (pos (kl ss) 0)),(3,.cells [.sl 4 0 ss.length ss.length 1 false] true),(4,.cells (ss.flatMap ng) false)] [(0,.cells [aJ,aJ] true),(8,kR n row),(5,.cells [aP 6 1 (r::rs),aP 7 1 (m::ms)] true),(6,.cells ((r::rs).flatMap ntC) false),(7,.cells ((m::ms).flatMap ntC) false)] rfl cO bxA rdA bxA reA ?_|refine Put.one (by simp;omega) ?_|fail)
      (conv=>whnf)
      refine⟨c+1,ss,row++[ss.idxOf (nxB next cur c)],⟨hrow,om,by simp[hrl],hne,hss,hsl,hcur⟩,om,?_⟩;exact lq [(0,_),(1,_),(2,_),(3,_),(4,_),(5,_),(6,_),(7,_),(8,_)] []
     .by_cases hs4:ss.length<400
      .simp only[jK,hs,if_false,hs4,if_true] at hrow;have hsl2:(ss++[nxB next cur c]).length=ss.length+1:=by simp
       repeat' ((conv=>whnf);first|exact kQ|(refine bk ?_ ?_<;>intro _<;>try exact exo)|refine stq ?_|refine Cll.emb (xF (s:=nxB next cur c) (by simp;omega) hne hs om) [(0,1),(1,2),(2,3),(3,4)] [9] (i64 (ss.length:Int)) [(1,.cells [.map 2] true),(2,.map (pos (kl (ss++[nxB next cur c])) 0)),(3,.cells [.sl 40 0 (ss++[nxB next cur c]).length (ss++[nxB next cur c]).length 1 false] true),(40,.cells ((ss++[nxB next cur c]).flatMap ng) false)] [(0,.cells [aJ,aJ] true),(8,kR n row),(5,.cells [aP 6 1 (r::rs),aP 7 1 (m::ms)] true),(6,.cells ((r::rs).flatMap ntC) false),(7,.cells ((m::ms).flatMap ntC) false)] rfl cO bxA rdA bxA reA ?_|refine Put.one (by simp;omega) ?_|fail)
       (conv=>whnf)
       refine⟨c+1,ss++[nxB next cur c],row++[ss.length],⟨hrow,om,by simp[hrl],si,by simp;omega,λs hs=>?_,by rw[List.getElem?_append_left hil];exact hcur⟩,om,?_⟩
       .rcases List.mem_append.1 hs with hs|hs
        .exact hsl s hs
        .simp at hs;subst hs;simp
       exact lq [(0,_),(1,_),(2,_),(3,_),(4,_),(5,_),(6,_),(7,_),(8,_)] []
      .simp only[jK,hs,if_false,hs4] at hrow;cases hrow
   .rw[show n-c=0 from om] at hrow;simp only[jK,kA,kB] at hrow;obtain⟨rfl,rfl⟩:=hrow;obtain rfl:c=n:=by omega
    repeat' ((conv=>whnf);first|exact kQ|(refine bk ?_ ?_<;>intro _<;>try exact exo)|refine stq ?_|fail)
    refine aG.by2 aB T0 (λ(k:Nat) (mk:List Nat)=>⟨tmp 119 (auT c e back next hits roots i [(9,.sl 8 0 c c 1 true),(14,aP 9 1 mk),(87,dI roots),(88,i64 roots.length),(89,i64 (k:Int))]),⟨10,bS 9 (λk=>[cR k]) mk++((8,kR c row)::auH ss (r::rs) (m::ms))⟩⟩)
     (λk mk=>k<=roots.length/\mk=iA cur (roots.take k) 0) (λk _=>roots.length-k) 0 [] ⟨om,by simp[iA]⟩ ?_ ?_
    .exact lq [(0,_),(1,_),(2,_),(3,_),(4,_),(5,_),(6,_),(7,_),(8,_)] []
    intro k mk ⟨hk,hmk1⟩;have hmkl:mk.length<=roots.length:=by rw[hmk1];exact Nat.le_trans (qt _ _) (by simp;omega)
    by_cases hk2:k<roots.length
    .have hrk:=hrt _ (kM hk2);rw[<-hcl] at hrk;have hsu:=tW hk2 hrk;rw[<-hmk1] at hsu;cases hb:cur[roots[k]] with
     | true=>
      rw[hb] at hsu;cases mk with
      | nil=>
       repeat' ((conv=>whnf);first|refine Idx.atE (d:=boo true) roots[k] rfl hrk (by rw[hb]) ?_|exact kQ|(refine bk ?_ ?_<;>intro _<;>try exact exo)|refine stq ?_|refine Get.one hgi ?_|fail)
       (conv=>whnf)
       refine⟨k+1,[k],⟨om,by rw[hsu];rfl⟩,om,?_⟩;exact lq [(0,_),(1,_),(2,_),(3,_),(4,_),(5,_),(6,_),(7,_),(8,_),(9,_)] []
      | cons y ys=>
       have hy2:(y::ys).length=ys.length+1:=rfl;repeat' ((conv=>whnf);first|refine Idx.atE (d:=boo true) roots[k] rfl hrk (by rw[hb]) ?_|exact kQ|(refine bk ?_ ?_<;>intro _<;>try exact exo)|refine stq ?_|refine Get.one hgi ?_|fail)
       (conv=>whnf)
       refine⟨k+1,(y::ys)++[k],⟨om,by rw[hsu];rfl⟩,om,?_⟩;exact lq [(0,_),(1,_),(2,_),(3,_),(4,_),(5,_),(6,_),(7,_),(8,_),(9,_)] []
     | false=>
      rw[hb] at hsu;cases mk with
      | nil=>
       repeat' ((conv=>whnf);first|refine Idx.atE (d:=boo false) roots[k] rfl hrk (by rw[hb]) ?_|exact kQ|(refine bk ?_ ?_<;>intro _<;>try exact exo)|refine stq ?_|refine Get.one hgi ?_|fail)
       (conv=>whnf)
       refine⟨k+1,[],⟨om,by rw[hsu];rfl⟩,om,?_⟩;exact lq [(0,_),(1,_),(2,_),(3,_),(4,_),(5,_),(6,_),(7,_),(8,_)] []
      | cons y ys=>
       repeat' ((conv=>whnf);first|refine Idx.atE (d:=boo false) roots[k] rfl hrk (by rw[hb]) ?_|exact kQ|(refine bk ?_ ?_<;>intro _<;>try exact exo)|refine stq ?_|refine Get.one hgi ?_|fail)
       (conv=>whnf)
       refine⟨k+1,y::ys,⟨om,by rw[hsu];simp⟩,om,?_⟩;exact lq [(0,_),(1,_),(2,_),(3,_),(4,_),(5,_),(6,_),(7,_),(8,_),(9,_)] []
    .have hmk2:mk=iA cur roots 0:=by rw[hmk1,kE om]
     cases mk with
     | nil=>
      repeat' ((conv=>whnf);first|exact kQ|(refine bk ?_ ?_<;>intro _<;>try exact exo)|refine stq ?_|fail)
      (conv=>whnf)
      refine⟨⟨f,i+1,ss,(r::rs)++[row],(m::ms)++[[]]⟩,⟨by rw[hmk2];exact h1,hne,hss,hsl,by dsimp only;have:=(List.getElem?_eq_some_iff.1 hcur).1;omega,by dsimp only;rw[kG,hrw];rfl,by dsimp only;rw[kG,hmk];rfl⟩,by dsimp only;omega,?_⟩;exact lq [(0,_),(1,_),(2,_),(3,_),(4,_),(5,_),(6,_),(7,_)] [8,9]
     | cons y ys=>
      repeat' ((conv=>whnf);first|exact kQ|(refine bk ?_ ?_<;>intro _<;>try exact exo)|refine stq ?_|fail)
      (conv=>whnf)
      refine⟨⟨f,i+1,ss,(r::rs)++[row],(m::ms)++[(y::ys)]⟩,⟨by rw[hmk2];exact h1,hne,hss,hsl,by dsimp only;have:=(List.getElem?_eq_some_iff.1 hcur).1;omega,by dsimp only;rw[kG,hrw];rfl,by dsimp only;rw[kG,hmk];rfl⟩,by dsimp only;omega,?_⟩;exact lq [(0,_),(1,_),(2,_),(3,_),(4,_),(5,_),(6,_),(7,_)] [8,9]
 .have h2:ss[i]?=none:=List.getElem?_eq_none om;simp only[i8,h2,kA,kB] at h1;obtain⟨rfl,rfl⟩:=h1;cases rows with
  | nil=>
   obtain rfl:marks=[]:=List.eq_nil_of_length_eq_zero (l:=marks) (by simp at hrw;omega);repeat' ((conv=>whnf);first|exact kQ|(refine bk ?_ ?_<;>intro _<;>try exact exo)|refine stq ?_|fail)
   (conv=>whnf)
   exact⟨.tup (.cons (.agg (.cons .nil (.cons .nil .nil))) (.cons (.same rfl) .nil))⟩
  | cons r rs=>
   obtain⟨m,ms,rfl⟩:=kI (show 0<marks.length by simp at hrw;omega);repeat' ((conv=>whnf);first|exact kQ|(refine bk ?_ ?_<;>intro _<;>try exact exo)|refine stq ?_|fail)
   (conv=>whnf)
   exact⟨.tup (.cons (.agg (.cons (rM (l:=r::rs) rfl rfl) (.cons (rM (l:=m::ms) rfl rfl) .nil))) (.cons (.same rfl) .nil))⟩
end Go.Proofs.YtlimkdlhldlolaaGreatDoor
