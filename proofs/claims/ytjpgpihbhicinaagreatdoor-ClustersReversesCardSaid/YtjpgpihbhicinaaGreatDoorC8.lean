/-
  Contracts of functions over data: nets of patterns.
-/
import Derived.Test.YtjpgpihbhicinaaGreatDoorC5
import Derived.Test.YtjpgpihbhicinaaGreatDoorAmF
set_option linter.unusedSectionVars false
namespace Go.Proofs.YtjpgpihbhicinaaGreatDoor
section
open Go Go.Am Classical
set_option maxRecDepth 100000
variable [GT]
inductive Pat where
 | mk (kind:Int) (cls:List Int) (subs:List Pat)
mutual
def bU:Pat->List D
 | .mk k c s=>[i64 k,aQ c,.imm s.length (qD s)]
def qD:List Pat->List D
 | []=>[]
 | p::l=>bU p++qD l
end
theorem qC:∀ l,qD l=l.flatMap bU
 | []=>rfl
 | p::l=>by simp[qD,qC l]
theorem bN (k:Int) (c:List Int) (s:List Pat):bU (.mk k c s)=[i64 k,aQ c,lstS bU s]:=by simp[bU,qC,lstS]
theorem dU:∀ p,(bU p).length=3
 | .mk _ _ _=>by simp[bU]
mutual
theorem aw:∀ p,aB (bU p)=true
 | .mk k c s=>by
  simp only[bU,aB,aF,Bool.and_true,Bool.true_and];exact(show(true&&aJ (.imm s.length (qD s)))=true from by rw[Bool.true_and];exact oN s)
theorem oN:∀ l,aB (qD l)=true
 | []=>rfl
 | p::l=>by rw[qD,d7,aw p,oN l];rfl
end
theorem xU (l:List Pat):aJ (lstS bU l)=true:=fG aw l
theorem kz (n:Nd):aB (ndC n)=true:=by simp[aB,aF,bR]
def EJ (ns:List Nd) (n:Nd):Option (Nat×List Nd):=if ns.length<=10000 then some (ns.length,ns++[n]) else none
def Aj (add:Pat->Nat->List Nd->Option (Nat×List Nd)):List Pat->Nat->List Nat->List Nd->Option (List Nat×List Nd)
 | [],_,to,ns=>some (to,ns)
 | p::l,nx,to,ns=>
  match add p nx ns with
  | some (i,ns')=>if to.length<=10000 then Aj add l nx (to++[i]) ns' else none
  | none=>none
def wJ (add:Pat->Nat->List Nd->Option (Nat×List Nd)):List Pat->Nat->List Nd->Option (Nat×List Nd)
 | [],nx,ns=>some (nx,ns)
 | p::l,nx,ns=>
  match add p nx ns with
  | some (i,ns')=>wJ add l i ns'
  | none=>none
def lW (b:Bool):Nat->Pat->Nat->List Nd->Option (Nat×List Nd)
 | 0,_,_,_=>none
 | f+1,.mk k c s,nx,ns=>
  if k=1 then EJ ns ⟨c,[nx]⟩
  else if k=3 then
   match Aj (lW b f) s nx [] ns with
   | some (to,ns')=>EJ ns' ⟨[],to⟩
   | none=>none
  else if k=4 then
   match s with
   | []=>none
   | q::_=>
    if ns.length<=10000 then
     match lW b f q ns.length (ns++[⟨[],[]⟩]) with
     | some (i,ns')=>(match ns'[ns.length]? with|some n=>some (ns.length,ns'.set ns.length ⟨n.cls,[i,nx]⟩)|none=>none)
     | none=>none
    else none
  else if s.length<=10000 then wJ (lW b f) (if b then s else s.reverse) nx ns else none
abbrev neB (ns:List Nd) (b:Bool):List (Nat×Box):=[(0,.cells [.sl 1 0 ns.length ns.length 2 false,boo b] true),(1,.cells (ns.flatMap ndC) false)]
abbrev neR (ns:List Nd) (b:Bool):List (Nat×Box):=[(0,.cells [.sl 2 0 ns.length ns.length 2 false,boo b] true),(2,.cells (ns.flatMap ndC) false)]
section
variable {h:aC}{fz:Nat->Bool}{σ:Nat->Option Nat}
theorem mu {l:List Nd}{n:Nd}{d d':D}(hd:Rd h fz σ d (aQ n.cls)) (hd':Rd h fz σ d' (dL n.to)):Rds h fz σ (((l.flatMap ndC).drop 0).take (l.length*2)++[d,d']) ((l++[n]).flatMap ndC):=by
 rw[List.flatMap_append];refine Rds.app (.eqs ?_ (aD kz _)) (.cons hd (.cons hd' .nil));rw[List.drop_zero,kE (by rw[aq (sz:=2) (fun _=>rfl)];exact kP _)]
theorem dX {id:Nat}{l:List Nat}{ex bx:Bool}{cs:List D}(hf:fz id=true) (hg:h.get id=some (.cells cs bx)) (e:cs=l.map cZ):Rd h fz σ (.sl id 0 l.length l.length 1 ex) (dL l):=by
 subst e;refine .frz hf hg (by simp) (.eqs ?_ (aZ (fun _=>rfl) _));rw[List.drop_zero,kE (by simp)]
end
theorem vL:∀ {l:List Nd}{k:Nat}{n:Nd}(to:List Nat),l[k]?=some n->(l.flatMap ndC).set (k*2+1) (dL to)=(l.set k ⟨n.cls,to⟩).flatMap ndC
 | [],_,_,_,h=>by simp at h
 | m::l,0,n,to,h=>by simp at h;subst h;rfl
 | m::l,k+1,n,to,h=>by
  have ih:=vL (l:=l) (k:=k) (n:=n) to (by simpa using h);rw[show(k+1)*2+1=(k*2+1)+1+1 from by omega];simp only[List.flatMap_cons,List.set_cons_succ,List.cons_append,List.nil_append];rw[ih]
theorem EW {h:aC}{fz:Nat->Bool}{σ:Nat->Option Nat}{l:List Nd}{k off:Nat}{n:Nd}{to:List Nat}{d:D}(hk:l[k]?=some n) (ho:off=k*2+1) (hd:Rd h fz σ d (dL to)):Rds h fz σ ((l.flatMap ndC).set off d) ((l.set k ⟨n.cls,to⟩).flatMap ndC):=by
 subst ho;exact Rds.tr rfl (vL to hk) (Rds.at hd _ (aD kz _))
theorem Idx.atSE {α:Type}{c:α->List D}{sz:Nat}(hc:∀ x,(c x).length=sz){l:List α}{m:Int}(k:Nat){ds:List D}{K:D->Prop}(e:m=(k:Int)) (h:k<l.length) (ed:c l[k]=ds) (go:K (.iptr ds)):Idx l.length (l.flatMap c) sz m K:=Idx.atS hc k e h (by rw[ed];exact go)
theorem aV (k:Int) (c:List Int) (s:List Pat):aJ (.agg [i64 k,aQ c,lstS bU s])=true:=by
 have:=aw (.mk k c s)
 rw[bN] at this;exact this
set_option maxHeartbeats 4000000 in
theorem wS {b:Bool}:∀ (F:Nat) (p:Pat) (nx:Nat) (ns:List Nd) (r:Nat) (ns':List Nd),lW b F p nx ns=some (r,ns') ->
  AC1 Tryz.prog 133 [.ptr 0 0,.agg (bU p),i64 (nx:Int)] ⟨2,neB ns b⟩ (i64 (r:Int)) ⟨3,neR ns' b⟩
 | 0,_,_,_,_,_,h=>by simp[lW] at h
 | F+1,.mk k c s,nx,ns,r,ns',h=>by
  rw[bN];refine AC1.of_vl aA T0 Tryz.func133 rfl rfl ?_;simp only[lW] at h;by_cases h1:k=1
  ·subst h1;simp only[if_true,EJ] at h;split at h
   ·rename_i hl;simp only[kA,kB] at h;obtain⟨rfl,rfl⟩:=h;repeat' ((conv=>whnf)<;>(first|refine eW.weak (nb:=2) (x:=Code.ret) aA T0 (s0:=⟨tmp 95 [(6,i64 (ns.length:Int))],⟨3,neR (ns++[⟨c,[nx]⟩]) b⟩⟩) ?_ ?_|refine sg ?_|exact kQ|(refine Br.mk ?_ ?_<;>intro _<;>try(exfalso;omega))|refine stq ?_|(apply Cll.inl aA T0 Tryz.func163 rfl rfl ?_;rotate_left)|refine bJ.by (id:=1) aA T0 [0,0,2,6,14,0,32,126,255,511,1023] (by kernel_rfl) ?_|exact⟨Or.inr rfl,rfl,rfl⟩|fail))
    ·exact Lf.of3 [(2,_)] [12] (by repeat(first|exact aM.nil|refine aM.cons rfl (by first|exact Rd.sl' rfl (by simp;done) (by simp;done)|exact Rd.int (by simp;done)|exact rdA|fail) ?_)) (by repeat(first|exact Bxs.nil|refine Bxs.cons rfl rfl rfl (by first|exact Rb.cells (mu (Rd.same (aF _)) (dX (l:=[nx]) rfl rfl rfl)) rfl|exact rbB|exact Rb.cells (by(repeat(first|exact Rds.nil|refine Rds.cons (by first|exact Rd.sl' rfl (by simp;done) (by simp;done)|exact Rd.int (by simp;done)|exact rdA|fail) ?_|fail));(first|done|fail)) rfl|exact rbC|fail) ?_)) rfl rfl rfl
   ·cases h
  rw[if_neg h1] at h;by_cases h3:k=3
  ·subst h3;simp only[if_true] at h;cases halt:Aj (lW b F) s nx [] ns with
   | none=>simp[halt] at h
   | some q=>
   obtain⟨to',ns1⟩:=q;simp only[halt,EJ] at h;split at h
   ·rename_i hl;simp only[kA,kB] at h;obtain⟨rfl,rfl⟩:=h;repeat' ((conv=>whnf)<;>(first|refine sg ?_|exact kQ|(refine Br.mk ?_ ?_<;>intro _<;>try(exfalso;omega))|refine stq ?_|fail))
    refine aU.by3 aA T0 (fun(k:Nat) (to:List Nat) (ns:List Nd)=>⟨tmp 95 [(0,.ptr 0 0),(2,i64 (nx:Int)),(7,ai 4 1 to),(27,lstS bU s),(28,i64 s.length),(29,i64 (k:Int))],⟨5,cW 4 (fun k=>[cZ k]) to++[(0,.cells [.sl 3 0 ns.length ns.length 2 false,boo b] true),(3,.cells (ns.flatMap ndC) false)]⟩⟩)
     (fun k to ns=>Aj (lW b F) (s.drop k) nx to ns=some (to',ns1)∧k<=s.length∧to.length<=10001∧to.length=k) (fun k _ _=>s.length-k) 0 [] ns ⟨halt,by omega,by simp,rfl⟩ ?_ ?_
    ·exact Lf.of3 [(3,_)] [] enA bxA rfl rfl rfl
    clear halt;intro k to ns ⟨halt,hk,hto,htk⟩;by_cases hk2:k<s.length
    ·rw[kK hk2] at halt;simp only[Aj] at halt;cases hadd:lW b F s[k] nx ns with
     | none=>simp[hadd] at halt
     | some q=>
     obtain⟨i,ns2⟩:=q;simp only[hadd] at halt;split at halt
     ·rename_i hto2;have ih:=wS F s[k] nx ns i ns2 hadd;cases hq:s[k] with
      | mk k' c' s'=>
      rw[hq,bN] at ih;have hpc:bU s[k]=[i64 k',aQ c',lstS bU s']:=by rw[hq,bN]
      cases to with
      | nil=>
       repeat' ((conv=>whnf)<;>(first|refine Idx.atSE dU k rfl hk2 hpc ?_|refine sg ?_|exact kQ|(refine Br.mk ?_ ?_<;>intro _<;>try(exfalso;omega))|refine stq ?_|refine Cll.emb ih [(0,0),(1,3)] [] (i64 (i:Int)) [(0,.cells [.sl 15 0 ns2.length ns2.length 2 false,boo b] true),(15,.cells (ns2.flatMap ndC) false)] [] rfl (by(repeat(first|exact Rds.nil|refine Rds.cons (by first|exact Rd.same (aV _ _ _)|exact rdA|fail) ?_|fail));(first|done|fail)) (by(repeat(first|exact Bxs.nil|refine Bxs.cons rfl rfl rfl (by first|exact rbB|exact Rb.cells (by(repeat(first|exact Rds.nil|refine Rds.cons (by first|exact Rd.same (aV _ _ _)|exact rdA|fail) ?_|fail));(first|done|fail)) rfl|exact rbC|fail) ?_|fail));(first|done|fail)) (by first|exact Rd.same (aV _ _ _)|exact rdA|fail) (by(repeat(first|exact Bxs.nil|refine Bxs.cons rfl rfl rfl (by first|exact rbB|exact Rb.cells (by(repeat(first|exact Rds.nil|refine Rds.cons (by first|exact Rd.same (aV _ _ _)|exact rdA|fail) ?_|fail));(first|done|fail)) rfl|exact rbC|fail) ?_|fail));(first|done|fail)) (by(repeat(first|exact aj.nil|refine aj.cons rfl rfl rfl ?_|fail));(first|done|fail)) ?_|fail))
       all_goals(conv=>whnf)
       refine⟨k+1,[i],ns2,⟨halt,by omega,by simp,by simp at htk ⊢;omega⟩,by omega,?_⟩;exact Lf.of2 [(3,_),(4,_)] [] enA bxA rfl rfl
      | cons y ys=>
       have hy2:(y::ys).length=ys.length+1:=rfl;repeat' ((conv=>whnf)<;>(first|refine Idx.atSE dU k rfl hk2 hpc ?_|refine sg ?_|exact kQ|(refine Br.mk ?_ ?_<;>intro _<;>try(exfalso;omega))|refine stq ?_|refine Cll.emb ih [(0,0),(1,3)] [] (i64 (i:Int)) [(0,.cells [.sl 15 0 ns2.length ns2.length 2 false,boo b] true),(15,.cells (ns2.flatMap ndC) false)] [(4,.cells ((y::ys).flatMap fun k=>[cZ k]) false)] rfl (by(repeat(first|exact Rds.nil|refine Rds.cons (by first|exact Rd.same (aV _ _ _)|exact rdA|fail) ?_|fail));(first|done|fail)) (by(repeat(first|exact Bxs.nil|refine Bxs.cons rfl rfl rfl (by first|exact rbB|exact Rb.cells (by(repeat(first|exact Rds.nil|refine Rds.cons (by first|exact Rd.same (aV _ _ _)|exact rdA|fail) ?_|fail));(first|done|fail)) rfl|exact rbC|fail) ?_|fail));(first|done|fail)) (by first|exact Rd.same (aV _ _ _)|exact rdA|fail) (by(repeat(first|exact Bxs.nil|refine Bxs.cons rfl rfl rfl (by first|exact rbB|exact Rb.cells (by(repeat(first|exact Rds.nil|refine Rds.cons (by first|exact Rd.same (aV _ _ _)|exact rdA|fail) ?_|fail));(first|done|fail)) rfl|exact rbC|fail) ?_|fail));(first|done|fail)) (by(repeat(first|exact aj.nil|refine aj.cons rfl rfl rfl ?_|fail));(first|done|fail)) ?_|fail))
       all_goals(conv=>whnf)
       refine⟨k+1,(y::ys)++[i],ns2,⟨halt,by omega,by simp at hto2 ⊢;omega,by simp at htk ⊢;omega⟩,by omega,?_⟩;exact Lf.of2 [(3,_),(4,_)] [] (by repeat(first|exact aM.nil|refine aM.cons rfl (by first|exact Rd.own (l:=(y::ys)++[i]) (by simp) rfl (by simp) (by simp)|exact rdA|fail) ?_)) (by repeat(first|exact Bxs.nil|refine Bxs.cons rfl rfl rfl (by first|exact Rb.cells (Rds.eqs (ak (c:=fun k=>[cZ k]) (by intro _;rfl) (y::ys) _) (aD (by intro _;rfl) _)) rfl|exact rbB|exact Rb.cells (by(repeat(first|exact Rds.nil|refine Rds.cons (by first|exact Rd.own (l:=(y::ys)++[i]) (by simp) rfl (by simp) (by simp)|exact rdA|fail) ?_|fail));(first|done|fail)) rfl|exact rbC|fail) ?_)) rfl rfl
     ·cases halt
    ·rw[List.drop_eq_nil_of_le (by omega)] at halt;simp only[Aj,kA,kB] at halt;obtain⟨rfl,rfl⟩:=halt;cases to with
     | nil=>
      repeat' ((conv=>whnf)<;>(first|refine eW.weak (nb:=2) (x:=Code.ret) aA T0 (s0:=⟨tmp 95 [(6,i64 (ns.length:Int))],⟨3,neR (ns++[⟨[],[]⟩]) b⟩⟩) ?_ ?_|refine sg ?_|exact kQ|(refine Br.mk ?_ ?_<;>intro _<;>try(exfalso;omega))|refine stq ?_|(apply Cll.inl aA T0 Tryz.func163 rfl rfl ?_;rotate_left)|refine bJ.by (id:=1) aA T0 [0,0,2,6,14,0,32,126,255,511,1023] (by kernel_rfl) ?_|exact⟨Or.inr rfl,rfl,rfl⟩|fail))
      exact Lf.of3 [(2,_)] [] (by repeat(first|exact aM.nil|refine aM.cons rfl (by first|exact Rd.sl' rfl (by simp;done) (by simp;done)|exact Rd.int (by simp;done)|exact rdA|fail) ?_)) (by repeat(first|exact Bxs.nil|refine Bxs.cons rfl rfl rfl (by first|exact Rb.cells (mu (n:=⟨[],[]⟩) Rd.nil Rd.nil) rfl|exact rbB|exact Rb.cells (by(repeat(first|exact Rds.nil|refine Rds.cons (by first|exact Rd.sl' rfl (by simp;done) (by simp;done)|exact Rd.int (by simp;done)|exact rdA|fail) ?_|fail));(first|done|fail)) rfl|exact rbC|fail) ?_)) rfl rfl rfl
     | cons y ys=>
      repeat' ((conv=>whnf)<;>(first|refine eW.weak (nb:=2) (x:=Code.ret) aA T0 (s0:=⟨tmp 95 [(6,i64 (ns.length:Int))],⟨3,neR (ns++[⟨[],y::ys⟩]) b⟩⟩) ?_ ?_|refine sg ?_|exact kQ|(refine Br.mk ?_ ?_<;>intro _<;>try(exfalso;omega))|refine stq ?_|(apply Cll.inl aA T0 Tryz.func163 rfl rfl ?_;rotate_left)|refine bJ.by (id:=1) aA T0 [0,0,2,6,14,0,32,126,255,511,1023] (by kernel_rfl) ?_|exact⟨Or.inr rfl,rfl,rfl⟩|fail))
      exact Lf.of3 [(2,_)] [4] (by repeat(first|exact aM.nil|refine aM.cons rfl (by first|exact Rd.sl' rfl (by simp;done) (by simp;done)|exact Rd.int (by simp;done)|exact rdA|fail) ?_)) (by repeat(first|exact Bxs.nil|refine Bxs.cons rfl rfl rfl (by first|exact Rb.cells (mu (n:=⟨[],y::ys⟩) Rd.nil (dX (l:=y::ys) rfl rfl (ac _))) rfl|exact rbB|exact Rb.cells (by(repeat(first|exact Rds.nil|refine Rds.cons (by first|exact Rd.sl' rfl (by simp;done) (by simp;done)|exact Rd.int (by simp;done)|exact rdA|fail) ?_|fail));(first|done|fail)) rfl|exact rbC|fail) ?_)) rfl rfl rfl
   ·cases h
  rw[if_neg h3] at h;by_cases h4:k=4
  ·subst h4;simp only[if_true] at h;cases s with
   | nil=>cases h
   | cons q qs=>
   simp only at h;split at h
   ·rename_i hl;cases hadd:lW b F q ns.length (ns++[⟨[],[]⟩]) with
    | none=>simp[hadd] at h
    | some z=>
    obtain⟨i,ns1⟩:=z;simp only[hadd] at h;cases hget:ns1[ns.length]? with
    | none=>simp[hget] at h
    | some n=>
    simp only[hget,kA,kB] at h;obtain⟨rfl,rfl⟩:=h;obtain⟨hlt,hgt⟩:=List.getElem?_eq_some_iff.1 hget;have hfl:(ns1.flatMap ndC).length=ns1.length*2:=aq (c:=ndC) (sz:=2) (fun _=>rfl) _;have ih:=wS F q ns.length (ns++[⟨[],[]⟩]) i ns1 hadd;cases q with
    | mk k' c' s'=>
    rw[bN] at ih
    repeat' ((conv=>whnf)<;>(first|refine Idx.atSE (l:=Pat.mk k' c' s' :: qs) dU 0 rfl (by simp) (bN k' c' s') ?_|refine eW.weak (nb:=2) (x:=Code.ret) aA T0 (s0:=⟨tmp 95 [(6,i64 (ns.length:Int))],⟨3,neR (ns1.set ns.length ⟨n.cls,[i,nx]⟩) b⟩⟩) ?_ ?_|refine sg ?_|exact kQ|(refine Br.mk ?_ ?_<;>intro _<;>try(exfalso;omega))|refine stq ?_|(apply Cll.inl aA T0 Tryz.func163 rfl rfl ?_;rotate_left)|refine bJ.by (id:=1) aA T0 [0,0,2,6,14,0,32,126,255,511,1023] (by kernel_rfl) ?_|exact⟨Or.inr rfl,rfl,rfl⟩|refine Cll.emb ih [(0,0),(1,24)] [] (i64 (i:Int)) [(0,.cells [.sl 43 0 ns1.length ns1.length 2 false,boo b] true),(43,.cells (ns1.flatMap ndC) false)] [] rfl (by(repeat(first|exact Rds.nil|refine Rds.cons (by first|exact Rd.same (aV _ _ _)|exact Rd.sl' rfl (by simp;done) (by simp;done)|exact Rd.int (by simp;done)|exact rdA|fail) ?_|fail));(first|done|fail)) (by(repeat(first|exact Bxs.nil|refine Bxs.cons rfl rfl rfl (by first|exact Rb.cells (mu (n:=⟨[],[]⟩) Rd.nil Rd.nil) rfl|exact rbB|exact Rb.cells (by(repeat(first|exact Rds.nil|refine Rds.cons (by first|exact Rd.same (aV _ _ _)|exact Rd.sl' rfl (by simp;done) (by simp;done)|exact Rd.int (by simp;done)|exact rdA|fail) ?_|fail));(first|done|fail)) rfl|exact rbC|fail) ?_|fail));(first|done|fail)) (by first|exact Rd.same (aV _ _ _)|exact Rd.sl' rfl (by simp;done) (by simp;done)|exact Rd.int (by simp;done)|exact rdA|fail) (by(repeat(first|exact Bxs.nil|refine Bxs.cons rfl rfl rfl (by first|exact Rb.cells (mu (n:=⟨[],[]⟩) Rd.nil Rd.nil) rfl|exact rbB|exact Rb.cells (by(repeat(first|exact Rds.nil|refine Rds.cons (by first|exact Rd.same (aV _ _ _)|exact Rd.sl' rfl (by simp;done) (by simp;done)|exact Rd.int (by simp;done)|exact rdA|fail) ?_|fail));(first|done|fail)) rfl|exact rbC|fail) ?_|fail));(first|done|fail)) (by(repeat(first|exact aj.nil|refine aj.cons rfl rfl rfl ?_|fail));(first|done|fail)) ?_|refine ca.at ns.length (by omega) hlt ?_|refine Put.at (by rw[hfl];simp;omega) ?_|fail))
    exact Lf.of3 [(2,_)] [52] (by repeat(first|exact aM.nil|refine aM.cons rfl (by first|exact Rd.sl' rfl (by simp;done) (by simp;done)|exact Rd.int (by simp;done)|exact rdA|fail) ?_)) (by repeat(first|exact Bxs.nil|refine Bxs.cons rfl rfl rfl (by first|exact Rb.cells (EW hget (by simp;done) (dX (l:=[i,nx]) rfl rfl rfl)) rfl|exact rbB|exact Rb.cells (by(repeat(first|exact Rds.nil|refine Rds.cons (by first|exact Rd.sl' rfl (by simp;done) (by simp;done)|exact Rd.int (by simp;done)|exact rdA|fail) ?_|fail));(first|done|fail)) rfl|exact rbC|fail) ?_)) rfl rfl rfl
   ·cases h
  rw[if_neg h4] at h;split at h
  ·rename_i hsl;cases b with
   | true=>
    repeat' ((conv=>whnf)<;>(first|refine sg ?_|exact kQ|(refine Br.mk ?_ ?_<;>intro _<;>try(exfalso;omega))|refine stq ?_|fail))
    refine aU.by3 aA T0 (fun(j:Nat) (nx:Nat) (ns:List Nd)=>⟨tmp 95 [(0,.ptr 0 0),(2,i64 (nx:Int)),(4,.ptr 4 0),(70,i64 s.length),(71,i64 (j:Int))],⟨5,[(4,.cells [i64 k,aQ c,lstS bU s] true),(0,.cells [.sl 3 0 ns.length ns.length 2 false,boo true] true),(3,.cells (ns.flatMap ndC) false)]⟩⟩)
     (fun j nx ns=>wJ (lW true F) ((s).drop j) nx ns=some (r,ns')∧j<=s.length) (fun j _ _=>s.length-j) 0 nx ns ⟨h,by omega⟩ ?_ ?_
    ·exact Lf.of3 [(3,_),(4,_)] [] enA (by repeat(first|exact Bxs.nil|refine Bxs.cons rfl rfl rfl (by first|exact Rb.cells (Rds.same (aV _ _ _)) rfl|exact rbB|exact Rb.cells bK rfl|exact rbC|fail) ?_)) rfl rfl rfl
    clear h;intro j nx ns ⟨hcat,hj⟩;by_cases hj2:j<s.length
    ·rw[kK (by first|omega|(simp;omega))] at hcat;simp only[wJ] at hcat;have hix:j<s.length:=by omega
     have hL:(s)[j]'(by first|omega|(simp;omega))=s[j]:=rfl;rw[hL] at hcat;cases hadd:lW true F s[j] nx ns with
     | none=>simp[hadd] at hcat
     | some q=>
     obtain⟨i,ns2⟩:=q;simp only[hadd] at hcat;have ih:=wS F s[j] nx ns i ns2 hadd;cases hq:s[j] with
     | mk k' c' s'=>
     rw[hq,bN] at ih;have hpc:bU s[j]=[i64 k',aQ c',lstS bU s']:=by rw[hq,bN]
     repeat' ((conv=>whnf)<;>(first|refine Idx.atSE dU (j) (by omega) hix hpc ?_|refine sg ?_|exact kQ|(refine Br.mk ?_ ?_<;>intro _<;>try(exfalso;omega))|refine stq ?_|refine Cll.emb ih [(0,0),(1,3)] [] (i64 (i:Int)) [(0,.cells [.sl 21 0 ns2.length ns2.length 2 false,boo true] true),(21,.cells (ns2.flatMap ndC) false)] [(4,.cells [i64 k,aQ c,lstS bU s] true)] rfl (by(repeat(first|exact Rds.nil|refine Rds.cons (by first|exact Rd.same (aV _ _ _)|exact rdA|fail) ?_|fail));(first|done|fail)) (by(repeat(first|exact Bxs.nil|refine Bxs.cons rfl rfl rfl (by first|exact rbB|exact Rb.cells (by(repeat(first|exact Rds.nil|refine Rds.cons (by first|exact Rd.same (aV _ _ _)|exact rdA|fail) ?_|fail));(first|done|fail)) rfl|exact rbC|fail) ?_|fail));(first|done|fail)) (by first|exact Rd.same (aV _ _ _)|exact rdA|fail) (by(repeat(first|exact Bxs.nil|refine Bxs.cons rfl rfl rfl (by first|exact rbB|exact Rb.cells (by(repeat(first|exact Rds.nil|refine Rds.cons (by first|exact Rd.same (aV _ _ _)|exact rdA|fail) ?_|fail));(first|done|fail)) rfl|exact rbC|fail) ?_|fail));(first|done|fail)) (by(repeat(first|exact aj.nil|refine aj.cons rfl rfl rfl ?_|fail));(first|done|fail)) ?_|fail))
     all_goals(conv=>whnf)
     refine⟨j+1,i,ns2,⟨hcat,by omega⟩,by omega,?_⟩;exact Lf.of2 [(3,_),(4,_)] [] enA (by repeat(first|exact Bxs.nil|refine Bxs.cons rfl rfl rfl (by first|exact Rb.cells (Rds.same (aV _ _ _)) rfl|exact rbB|exact Rb.cells bK rfl|exact rbC|fail) ?_)) rfl rfl
    ·rw[List.drop_eq_nil_of_le (by first|omega|(simp;omega))] at hcat;simp only[wJ,kA,kB] at hcat;obtain⟨rfl,rfl⟩:=hcat;repeat' ((conv=>whnf)<;>(first|refine eW.weak (nb:=2) (x:=Code.ret) aA T0 (s0:=⟨tmp 95 [(6,i64 (nx:Int))],⟨3,neR ns true⟩⟩) ?_ ?_|refine sg ?_|exact kQ|(refine Br.mk ?_ ?_<;>intro _<;>try(exfalso;omega))|refine stq ?_|exact⟨Or.inr rfl,rfl,rfl⟩|fail))
     exact Lf.of3 [(2,_)] [] enA bxA rfl rfl rfl
   | false=>
    rw[if_neg (by simp)] at h;repeat' ((conv=>whnf)<;>(first|refine sg ?_|exact kQ|(refine Br.mk ?_ ?_<;>intro _<;>try(exfalso;omega))|refine stq ?_|fail))
    refine aU.by3 aA T0 (fun(j:Nat) (nx:Nat) (ns:List Nd)=>⟨tmp 95 [(0,.ptr 0 0),(2,i64 (nx:Int)),(4,.ptr 4 0),(70,i64 s.length),(71,i64 (j:Int))],⟨5,[(4,.cells [i64 k,aQ c,lstS bU s] true),(0,.cells [.sl 3 0 ns.length ns.length 2 false,boo false] true),(3,.cells (ns.flatMap ndC) false)]⟩⟩)
     (fun j nx ns=>wJ (lW false F) ((s.reverse).drop j) nx ns=some (r,ns')∧j<=s.length) (fun j _ _=>s.length-j) 0 nx ns ⟨h,by omega⟩ ?_ ?_
    ·exact Lf.of3 [(3,_),(4,_)] [] enA (by repeat(first|exact Bxs.nil|refine Bxs.cons rfl rfl rfl (by first|exact Rb.cells (Rds.same (aV _ _ _)) rfl|exact rbB|exact Rb.cells bK rfl|exact rbC|fail) ?_)) rfl rfl rfl
    clear h;intro j nx ns ⟨hcat,hj⟩;by_cases hj2:j<s.length
    ·rw[kK (by first|omega|(simp;omega))] at hcat;simp only[wJ] at hcat;have hix:(s.length-1-j)<s.length:=by omega
     have hL:(s.reverse)[j]'(by first|omega|(simp;omega))=s[(s.length-1-j)]:=by simp
     rw[hL] at hcat;cases hadd:lW false F s[(s.length-1-j)] nx ns with
     | none=>simp[hadd] at hcat
     | some q=>
     obtain⟨i,ns2⟩:=q;simp only[hadd] at hcat;have ih:=wS F s[(s.length-1-j)] nx ns i ns2 hadd;cases hq:s[(s.length-1-j)] with
     | mk k' c' s'=>
     rw[hq,bN] at ih;have hpc:bU s[(s.length-1-j)]=[i64 k',aQ c',lstS bU s']:=by rw[hq,bN]
     repeat' ((conv=>whnf)<;>(first|refine Idx.atSE dU ((s.length-1-j)) (by omega) hix hpc ?_|refine sg ?_|exact kQ|(refine Br.mk ?_ ?_<;>intro _<;>try(exfalso;omega))|refine stq ?_|refine Cll.emb ih [(0,0),(1,3)] [] (i64 (i:Int)) [(0,.cells [.sl 28 0 ns2.length ns2.length 2 false,boo false] true),(28,.cells (ns2.flatMap ndC) false)] [(4,.cells [i64 k,aQ c,lstS bU s] true)] rfl (by(repeat(first|exact Rds.nil|refine Rds.cons (by first|exact Rd.same (aV _ _ _)|exact rdA|fail) ?_|fail));(first|done|fail)) (by(repeat(first|exact Bxs.nil|refine Bxs.cons rfl rfl rfl (by first|exact rbB|exact Rb.cells (by(repeat(first|exact Rds.nil|refine Rds.cons (by first|exact Rd.same (aV _ _ _)|exact rdA|fail) ?_|fail));(first|done|fail)) rfl|exact rbC|fail) ?_|fail));(first|done|fail)) (by first|exact Rd.same (aV _ _ _)|exact rdA|fail) (by(repeat(first|exact Bxs.nil|refine Bxs.cons rfl rfl rfl (by first|exact rbB|exact Rb.cells (by(repeat(first|exact Rds.nil|refine Rds.cons (by first|exact Rd.same (aV _ _ _)|exact rdA|fail) ?_|fail));(first|done|fail)) rfl|exact rbC|fail) ?_|fail));(first|done|fail)) (by(repeat(first|exact aj.nil|refine aj.cons rfl rfl rfl ?_|fail));(first|done|fail)) ?_|fail))
     all_goals(conv=>whnf)
     refine⟨j+1,i,ns2,⟨hcat,by omega⟩,by omega,?_⟩;exact Lf.of2 [(3,_),(4,_)] [] enA (by repeat(first|exact Bxs.nil|refine Bxs.cons rfl rfl rfl (by first|exact Rb.cells (Rds.same (aV _ _ _)) rfl|exact rbB|exact Rb.cells bK rfl|exact rbC|fail) ?_)) rfl rfl
    ·rw[List.drop_eq_nil_of_le (by first|omega|(simp;omega))] at hcat;simp only[wJ,kA,kB] at hcat;obtain⟨rfl,rfl⟩:=hcat;repeat' ((conv=>whnf)<;>(first|refine eW.weak (nb:=2) (x:=Code.ret) aA T0 (s0:=⟨tmp 95 [(6,i64 (nx:Int))],⟨3,neR ns false⟩⟩) ?_ ?_|refine sg ?_|exact kQ|(refine Br.mk ?_ ?_<;>intro _<;>try(exfalso;omega))|refine stq ?_|exact⟨Or.inr rfl,rfl,rfl⟩|fail))
     exact Lf.of3 [(2,_)] [] enA bxA rfl rfl rfl
  ·cases h
end
section
open Go Go.Am Classical
set_option maxRecDepth 100000
variable [GT]
theorem fb.posN {h:aC}{k:Str}{l:List Str}{n:Nat}{K:Option (Nat×D)->Prop}(yes:∀ i,k∈l->K (some (i,i64 ((n+l.idxOf k:Nat):Int)))) (no:¬k∈l->K none):fb h (.str k) (pos l n) K:=by
 obtain⟨r,h1,h2⟩:=np (h:=h) (k:=k) (l:=l) (n:=n) (i:=0);rcases h2 with⟨h2,rfl⟩|⟨h2,rfl⟩
 ·exact⟨_,h1,by simpa using yes _ h2⟩
 ·exact⟨_,h1,no h2⟩
section
variable {h:aC}{fz:Nat->Bool}{σ:Nat->Option Nat}
theorem Rd.owns {α:Type}{id id' es:Nat}{l:List α}(hs:σ id'=some id):Rd h fz σ (ai id es l) (ai id' es l):=by
 cases l with
 | nil=>exact .same rfl
 | cons x l=>exact .sl hs
end
abbrev cJ (ss:List (List Nat)):List Str:=ss.map eY
abbrev nsC (s:List Nat):List D:=[dL s]
abbrev blC (b:Bool):List D:=[boo b]
theorem ng (s:List Nat):aB (nsC s)=true:=by simp[aB,bR]
theorem oO {d:D}(h:aJ d=true):aB [d]=true:=by simp[aB,h]
abbrev mcC (n e:Nat) (b:Bool) (dn dh dr:D):List D:=[i64 n,i64 e,boo b,dn,dh,dr]
abbrev nuB (n e base:Nat) (b:Bool) (ss:List (List Nat)) (next:List (List Nat)) (hits:List Bool) (roots:List Nat):List (Nat×Box):=
 (0,.cells [.map 1] true)::(1,.map (pos (cJ ss) base))::(2,.cells [ai 3 1 ss] true)::(4,.cells [.ptr 5 0] true)::(5,.cells (mcC n e b (ai 7 1 next) (ai 6 1 hits) (ai 8 1 roots)) true)::(cW 3 nsC ss++cW 6 blC hits)
theorem yi {base:Nat}{b:Bool}{ns:List Nd}{ss:List (List Nat)}{s:List Nat}(hl:s.length<=1000000) (hs:∀ i (h:i<s.length),s[i]<100) (hk:eY s∈cJ ss) :
  AC1 Tryz.prog 129 [dL s,.ptr 0 0,.iptr [i64 (base:Int)],.ptr 2 0,.ptr 4 0,iI ns b]
   ⟨9,[(0,.cells [.map 1] true),(1,.map (pos (cJ ss) base))]⟩ (i64 ((base+(cJ ss).idxOf (eY s):Nat):Int)) ⟨25,[(0,.cells [.map 1] true),(1,.map (pos (cJ ss) base))]⟩:=by
 refine AC1.of_vl aA T0 Tryz.func129 rfl rfl ?_;repeat' ((conv=>whnf)<;>(first|refine sg ?_|exact kQ|(refine Br.mk ?_ ?_<;>intro _<;>try(exfalso;omega))|refine stq ?_|refine Cll.pu (dT sd sd) ?_|refine Cll.pu (dT hl hs) ?_|(refine fb.posN (fun _ _=>?_) (fun _=>?_)<;>(try contradiction))|fail))
 all_goals(conv=>whnf)
 exact⟨Or.inr rfl,rfl,rfl⟩
abbrev nuR (n e base:Nat) (b:Bool) (ss:List (List Nat)) (next:List (List Nat)) (hits:List Bool) (roots:List Nat):List (Nat×Box):=
 [(0,.cells [.map 1] true),(1,.map (pos (cJ ss) base)),(2,.cells [.sl 9 0 ss.length ss.length 1 false] true),(9,.cells (ss.flatMap nsC) false),(4,.cells [.ptr 5 0] true),(5,.cells (mcC n e b (ai 7 1 next) (.sl 10 0 hits.length hits.length 1 false) (ai 8 1 roots)) true),(10,.cells (hits.flatMap blC) false)]
theorem tR {ss:List (List Nat)}{s:List Nat}{base:Nat}:pos (cJ ss) base++[(D.str (eY s),i64 ((base:Int)+(ss.length:Int)))]=pos (cJ (ss++[s])) base:=by
 simp only[cJ,List.map_append,mA];simp[pos]
set_option maxHeartbeats 4000000 in
theorem Bu {n e base F:Nat}{b:Bool}{ns:List Nd}{ss next:List (List Nat)}{s r:List Nat}{hits:List Bool}{roots:List Nat}(hl:s.length<=100000) (hs:∀ i (h:i<s.length),s[i]<100) (hk:¬eY s∈cJ ss) (hsl:ss.length<=100000) (hbase:base<=100000)
  (hhl:hits.length=base+ss.length) (hF:F<=100000) (hnl:ns.length<=100000) (hset:∀ i (h:i<s.length),s[i]<ns.length) (hcl:∀ i (h:i<ns.length),ns[i].cls.length<=1000000) (hg:(gat ns (e:Int) s).length<=100000) (hst:stp ns F s (e:Int)=some r) (hrl:r.length<=1000000) :
  AC1 Tryz.prog 129 [dL s,.ptr 0 0,.iptr [i64 (base:Int)],.ptr 2 0,.ptr 4 0,iI ns b]
   ⟨9,nuB n e base b ss next hits roots⟩ (i64 ((base+ss.length:Nat):Int)) ⟨11,nuR n e base b (ss++[s]) next (hits++[decide (r=[0])]) roots⟩:=by
 have hstep:=BE (b:=b) hF hnl hset (by omega) hcl hg hst;have hend:=t7 (l:=r) hrl;have hl1:s.length<=1000000:=by omega
 refine AC1.of_vl aA T0 Tryz.func129 rfl rfl ?_;cases ss with
 | nil=>
  cases hits with
  | nil=>
   repeat' ((conv=>whnf)<;>(first|refine eW.weak (nb:=9) (x:=Code.ret) aA T0 (s0:=⟨tmp 49 [(7,i64 ((base+(([]:List (List Nat))).length:Nat):Int))],⟨11,nuR n e base b (([]:List (List Nat))++[s]) next ([]++[decide (r=[0])]) roots⟩⟩) ?_ ?_|refine sg ?_|exact kQ|(refine Br.mk ?_ ?_<;>intro _<;>try(exfalso;omega))|refine stq ?_|refine Cll.pu (dT sd sd) ?_|refine aO.pu (dT sd sd) ?_|refine Cll.pu (dT hl1 hs) ?_|(refine fb.posN (fun _ _=>?_) (fun _=>?_)<;>(try contradiction))|refine bJ.by (id:=7) aA T0 [0,0,2,6,14,0,0,64,192,448,992,2016,4064,8190,16383,32767,65535] (by kernel_rfl) ?_|refine aO.pu hstep ?_|refine aO.pu hend ?_|refine Chk.mk ⟨_,rfl⟩ ?_|exact⟨Or.inr rfl,rfl,rfl⟩|fail))
   exact Lf.of2 [(9,_),(10,_)] [] (by repeat(first|exact aM.nil|refine aM.cons rfl (by first|exact Rd.owns rfl|exact Rd.int (by simp;done)|exact Rd.int (by simp;omega)|exact Rd.sl' rfl (by simp;done) (by simp;done)|exact rdA|fail) ?_)) (by repeat(first|exact Bxs.nil|refine Bxs.cons rfl rfl rfl (by first|exact Rb.map (Res.eqs tR (aa _ _))|exact Rb.cells (Rds.same (oO (bR _))) rfl|exact rbB|exact Rb.cells (by(repeat(first|exact Rds.nil|refine Rds.cons (by first|exact Rd.owns rfl|exact Rd.int (by simp;done)|exact Rd.int (by simp;omega)|exact Rd.sl' rfl (by simp;done) (by simp;done)|exact rdA|fail) ?_|fail));(first|done|fail)) rfl|exact rbC|fail) ?_)) rfl rfl
  | cons y ys=>
   have hy2:(y::ys).length=ys.length+1:=rfl;repeat' ((conv=>whnf)<;>(first|refine eW.weak (nb:=9) (x:=Code.ret) aA T0 (s0:=⟨tmp 49 [(7,i64 ((base+(([]:List (List Nat))).length:Nat):Int))],⟨11,nuR n e base b (([]:List (List Nat))++[s]) next ((y::ys)++[decide (r=[0])]) roots⟩⟩) ?_ ?_|refine sg ?_|exact kQ|(refine Br.mk ?_ ?_<;>intro _<;>try(exfalso;omega))|refine stq ?_|refine Cll.pu (dT sd sd) ?_|refine aO.pu (dT sd sd) ?_|refine Cll.pu (dT hl1 hs) ?_|(refine fb.posN (fun _ _=>?_) (fun _=>?_)<;>(try contradiction))|refine bJ.by (id:=7) aA T0 [0,0,2,6,14,0,0,64,192,448,992,2016,4064,8190,16383,32767,65535] (by kernel_rfl) ?_|refine aO.pu hstep ?_|refine aO.pu hend ?_|refine Chk.mk ⟨_,rfl⟩ ?_|exact⟨Or.inr rfl,rfl,rfl⟩|fail))
   exact Lf.of2 [(9,_),(10,_)] [] (by repeat(first|exact aM.nil|refine aM.cons rfl (by first|exact Rd.owns rfl|exact Rd.int (by simp;done)|exact Rd.int (by simp;omega)|exact Rd.sl' rfl (by simp;done) (by simp;done)|exact rdA|fail) ?_)) (by repeat(first|exact Bxs.nil|refine Bxs.cons rfl rfl rfl (by first|exact Rb.map (Res.eqs tR (aa _ _))|exact Rb.cells (Rds.same (oO (bR _))) rfl|exact Rb.cells (Rds.eqs (ak (c:=blC) (by intro _;rfl) (y::ys) _) (aD (by intro _;rfl) _)) rfl|exact rbB|exact Rb.cells (by(repeat(first|exact Rds.nil|refine Rds.cons (by first|exact Rd.owns rfl|exact Rd.int (by simp;done)|exact Rd.int (by simp;omega)|exact Rd.sl' rfl (by simp;done) (by simp;done)|exact rdA|fail) ?_|fail));(first|done|fail)) rfl|exact rbC|fail) ?_)) rfl rfl
 | cons t ts=>
  obtain⟨y,ys,rfl⟩:=kI (show 0<hits.length by simp at hhl;omega);have hy2:(y::ys).length=ys.length+1:=rfl;have ht2:(t::ts).length=ts.length+1:=rfl;repeat' ((conv=>whnf)<;>(first|refine eW.weak (nb:=9) (x:=Code.ret) aA T0 (s0:=⟨tmp 49 [(7,i64 ((base+((t::ts)).length:Nat):Int))],⟨11,nuR n e base b ((t::ts)++[s]) next ((y::ys)++[decide (r=[0])]) roots⟩⟩) ?_ ?_|refine sg ?_|exact kQ|(refine Br.mk ?_ ?_<;>intro _<;>try(exfalso;omega))|refine stq ?_|refine Cll.pu (dT sd sd) ?_|refine aO.pu (dT sd sd) ?_|refine Cll.pu (dT hl1 hs) ?_|(refine fb.posN (fun _ _=>?_) (fun _=>?_)<;>(try contradiction))|refine bJ.by (id:=7) aA T0 [0,0,2,6,14,0,0,64,192,448,992,2016,4064,8190,16383,32767,65535] (by kernel_rfl) ?_|refine aO.pu hstep ?_|refine aO.pu hend ?_|refine Chk.mk ⟨_,rfl⟩ ?_|exact⟨Or.inr rfl,rfl,rfl⟩|fail))
  exact Lf.of2 [(9,_),(10,_)] [] (by repeat(first|exact aM.nil|refine aM.cons rfl (by first|exact Rd.owns rfl|exact Rd.int (by simp;done)|exact Rd.int (by simp;omega)|exact Rd.sl' rfl (by simp;done) (by simp;done)|exact rdA|fail) ?_)) (by repeat(first|exact Bxs.nil|refine Bxs.cons rfl rfl rfl (by first|exact Rb.map (Res.eqs tR (aa _ _))|exact Rb.cells (Rds.eqs (ak (c:=nsC) (by intro _;rfl) (t::ts) _) (aD ng _)) rfl|exact Rb.cells (Rds.eqs (ak (c:=blC) (by intro _;rfl) (y::ys) _) (aD (by intro _;rfl) _)) rfl|exact rbB|exact Rb.cells (by(repeat(first|exact Rds.nil|refine Rds.cons (by first|exact Rd.owns rfl|exact Rd.int (by simp;done)|exact Rd.int (by simp;omega)|exact Rd.sl' rfl (by simp;done) (by simp;done)|exact rdA|fail) ?_|fail));(first|done|fail)) rfl|exact rbC|fail) ?_)) rfl rfl
end
end Go.Proofs.YtjpgpihbhicinaaGreatDoor
