/-
  Contracts of functions over data: nets of patterns.
-/
import Derived.Test.YtpgcjpcenaefpaaGreatDoorC0
import Derived.Test.YtpgcjpcenaefpaaGreatDoorAmF
set_option linter.unusedSectionVars false
namespace Go.Proofs.YtpgcjpcenaefpaaGreatDoor
section
open Go Go.Am Classical
set_option maxRecDepth 100000
theorem xC8.rdX {p:Prop}(h:p:=by first|exact Rd.same (fL _ _ _)|exact Rd.own (l:=(y::ys)++[i]) sim rfl sim sim|exact Rd.sl' rfl sim sim|exact Rd.int sim|fail):p:=h
theorem xC8.rbX {p:Prop}(h:p:=by first|exact Rb.cells (Rds.eqs (aS (c:=λk=>[cP k]) (by intro _;rfl) (y::ys) _) (aE (by intro _;rfl) _)) rfl|exact Rb.cells (Rds.same (fL _ _ _)) rfl|exact Rb.cells (u7 (Rd.same (aM _)) (nI (l:=[nx]) rfl rfl rfl)) rfl|exact Rb.cells (u7 (n:=⟨[],[]⟩) Rd.nil Rd.nil) rfl|exact Rb.cells (u7 (n:=⟨[],y::ys⟩) Rd.nil (nI (l:=y::ys) rfl rfl (aN _))) rfl|exact Rb.cells (HZ hget sim (nI (l:=[i,nx]) rfl rfl rfl)) rfl|fail):p:=h
open xC8
variable [GT]
inductive Pat where
 | mk (kind:Int) (cls:List Int) (subs:List Pat)
mutual
def bF:Pat->List D
 | .mk k c s=>[i64 k,aD c,.imm s.length (qW s)]
def qW:List Pat->List D
 | []=>[]
 | p::l=>bF p++qW l
end
theorem qV:∀ l,qW l=l.flatMap bF
 | []=>rfl
 | p::l=>by simp[qW,qV l]
theorem a8 (k:Int) (c:List Int) (s:List Pat):bF (.mk k c s)=[i64 k,aD c,lstS bF s]:=by simp[bF,qV,lstS]
theorem dN:∀ p,(bF p).length=3
 | .mk _ _ _=>by simp[bF]
mutual
theorem d9:∀ p,aF (bF p)=true
 | .mk k c s=>by
  simp only[bF,aF,aM,Bool.and_true,Bool.true_and];exact(show(true&&aK (.imm s.length (qW s)))=true from by rw[Bool.true_and];exact ob s)
theorem ob:∀ l,aF (qW l)=true
 | []=>rfl
 | p::l=>by rw[qW,dj,d9 p,ob l];rfl
end
theorem qe (l:List Pat):aK (lstS bF l)=true:=fP d9 l
theorem lB (n:Nd):aF (ndC n)=true:=by simp[aF,aM,bz]
def HE (ns:List Nd) (n:Nd):Option (Nat×List Nd):=if ns.length<=10000 then some (ns.length,ns++[n]) else none
def DF (add:Pat->Nat->List Nd->Option (Nat×List Nd)):List Pat->Nat->List Nat->List Nd->Option (List Nat×List Nd)
 | [],_,to,ns=>some (to,ns)
 | p::l,nx,to,ns=>
  match add p nx ns with
  | some (i,ns')=>if to.length<=10000 then DF add l nx (to++[i]) ns' else none
  | none=>none
def yH (add:Pat->Nat->List Nd->Option (Nat×List Nd)):List Pat->Nat->List Nd->Option (Nat×List Nd)
 | [],nx,ns=>some (nx,ns)
 | p::l,nx,ns=>
  match add p nx ns with
  | some (i,ns')=>yH add l i ns'
  | none=>none
def lT (b:Bool):Nat->Pat->Nat->List Nd->Option (Nat×List Nd)
 | 0,_,_,_=>none
 | f+1,.mk k c s,nx,ns=>
  if k=1 then HE ns ⟨c,[nx]⟩
  else if k=3 then
   match DF (lT b f) s nx [] ns with
   | some (to,ns')=>HE ns' ⟨[],to⟩
   | none=>none
  else if k=4 then
   match s with
   | []=>none
   | q::_=>
    if ns.length<=10000 then
     match lT b f q ns.length (ns++[⟨[],[]⟩]) with
     | some (i,ns')=>(match ns'[ns.length]? with|some n=>some (ns.length,ns'.set ns.length ⟨n.cls,[i,nx]⟩)|none=>none)
     | none=>none
    else none
  else if s.length<=10000 then yH (lT b f) (if b then s else s.reverse) nx ns else none
abbrev neB (ns:List Nd) (b:Bool):List (Nat×Box):=[(0,.cells [.sl 1 0 ns.length ns.length 2 false,boo b] true),(1,.cells (ns.flatMap ndC) false)]
abbrev neR (ns:List Nd) (b:Bool):List (Nat×Box):=[(0,.cells [.sl 2 0 ns.length ns.length 2 false,boo b] true),(2,.cells (ns.flatMap ndC) false)]
section
variable {h:aA}{fz:Nat->Bool}{σ:Nat->Option Nat}
theorem u7 {l:List Nd}{n:Nd}{d d':D}(hd:Rd h fz σ d (aD n.cls)) (hd':Rd h fz σ d' (dG n.to)):Rds h fz σ (((l.flatMap ndC).drop 0).take (l.length*2)++[d,d']) ((l++[n]).flatMap ndC):=by
 rw[List.flatMap_append];refine Rds.app (.eqs ?_ (aE lB _)) (.cons hd (.cons hd' .nil));rw[List.drop_zero,kE (by rw[aZ (sz:=2) (λ_=>rfl)];exact kP _)]
theorem nI {id:Nat}{l:List Nat}{ex bx:Bool}{cs:List D}(hf:fz id=true) (hg:h.get id=some (.cells cs bx)) (e:cs=l.map cP):Rd h fz σ (.sl id 0 l.length l.length 1 ex) (dG l):=by
 subst e;refine .frz hf hg si (.eqs ?_ (aT (λ_=>rfl) _));rw[List.drop_zero,kE si]
end
theorem w9:∀ {l:List Nd}{k:Nat}{n:Nd}(to:List Nat),l[k]?=some n->(l.flatMap ndC).set (k*2+1) (dG to)=(l.set k ⟨n.cls,to⟩).flatMap ndC
 | [],_,_,_,h=>by simp at h
 | m::l,0,n,to,h=>by simp at h;subst h;rfl
 | m::l,k+1,n,to,h=>by
  have ih:=w9 (l:=l) (k:=k) (n:=n) to (by simpa using h);rw[show(k+1)*2+1=(k*2+1)+1+1 from om];simp only[List.flatMap_cons,List.set_cons_succ,List.cons_append,List.nil_append];rw[ih]
theorem HZ {h:aA}{fz:Nat->Bool}{σ:Nat->Option Nat}{l:List Nd}{k off:Nat}{n:Nd}{to:List Nat}{d:D}(hk:l[k]?=some n) (ho:off=k*2+1) (hd:Rd h fz σ d (dG to)):Rds h fz σ ((l.flatMap ndC).set off d) ((l.set k ⟨n.cls,to⟩).flatMap ndC):=by
 subst ho;exact Rds.tr rfl (w9 to hk) (Rds.at hd _ (aE lB _))
theorem Idx.atSE {α:Type}{c:α->List D}{sz:Nat}(hc:∀ x,(c x).length=sz){l:List α}{m:Int}(k:Nat){ds:List D}{K:D->Prop}(e:m=(k:Int)) (h:k<l.length) (ed:c l[k]=ds) (go:K (.iptr ds)):Idx l.length (l.flatMap c) sz m K:=Idx.atS hc k e h (by rw[ed];exact go)
theorem fL (k:Int) (c:List Int) (s:List Pat):aK (.agg [i64 k,aD c,lstS bF s])=true:=by
 have:=d9 (.mk k c s)
 rw[a8] at this;exact this
set_option maxHeartbeats 4000000 in
theorem yU {b:Bool}:∀ (F:Nat) (p:Pat) (nx:Nat) (ns:List Nd) (r:Nat) (ns':List Nd),lT b F p nx ns=some (r,ns') ->
  AC1 Tryz.prog 145 [.ptr 0 0,.agg (bF p),i64 (nx:Int)] ⟨2,neB ns b⟩ (i64 (r:Int)) ⟨3,neR ns' b⟩
 | 0,_,_,_,_,_,h=>by simp[lT] at h
 | F+1,.mk k c s,nx,ns,r,ns',h=>by
  rw[a8];refine AC1.of_vl aB T0 Tryz.func145 rfl rfl ?_;simp only[lT] at h;by_cases h1:k=1
  .subst h1;simp only[if_true,HE] at h;split at h
   .rename_i hl;simp only[kA,kB] at h;obtain⟨rfl,rfl⟩:=h;repeat' ((conv=>whnf);first|refine cZ.weak (nb:=2) (x:=Code.ret) aB T0 (s0:=⟨tmp 95 [(6,i64 (ns.length:Int))],⟨3,neR (ns++[⟨c,[nx]⟩]) b⟩⟩) ?_ ?_|exact kQ|(refine bk ?_ ?_<;>intro _<;>try exact exo)|refine stq ?_|(apply Cll.inl aB T0 Tryz.func183 rfl rfl ?_;rotate_left)|refine ac.by (id:=1) aB T0 [0,0,2,6,14,0,32,126,255,511,1023] (by kernel_rfl) ?_|exact⟨Or.inr rfl,rfl,rfl⟩|fail)
    .exact lq3 [(2,_)] [12]
   .cases h
  rw[if_neg h1] at h;by_cases h3:k=3
  .subst h3;simp only[if_true] at h;cases halt:DF (lT b F) s nx [] ns with
   | none=>simp[halt] at h
   | some q=>
   obtain⟨to',ns1⟩:=q;simp only[halt,HE] at h;split at h
   .rename_i hl;simp only[kA,kB] at h;obtain⟨rfl,rfl⟩:=h;repeat' ((conv=>whnf);first|exact kQ|(refine bk ?_ ?_<;>intro _<;>try exact exo)|refine stq ?_|fail)
    refine aG.by3 aB T0 (λ(k:Nat) (to:List Nat) (ns:List Nd)=>⟨tmp 95 [(0,.ptr 0 0),(2,i64 (nx:Int)),(7,aP 4 1 to),(27,lstS bF s),(28,i64 s.length),(29,i64 (k:Int))],⟨5,bK 4 (λk=>[cP k]) to++[(0,.cells [.sl 3 0 ns.length ns.length 2 false,boo b] true),(3,.cells (ns.flatMap ndC) false)]⟩⟩)
     (λk to ns=>DF (lT b F) (s.drop k) nx to ns=some (to',ns1)/\k<=s.length/\to.length<=10001/\to.length=k) (λk _ _=>s.length-k) 0 [] ns ⟨halt,om,si,rfl⟩ ?_ ?_
    .exact lq3 [(3,_)] []
    clear halt;intro k to ns ⟨halt,hk,hto,htk⟩;by_cases hk2:k<s.length
    .rw[kK hk2] at halt;simp only[DF] at halt;cases hadd:lT b F s[k] nx ns with
     | none=>simp[hadd] at halt
     | some q=>
     obtain⟨i,ns2⟩:=q;simp only[hadd] at halt;split at halt
     .rename_i hto2;have ih:=yU F s[k] nx ns i ns2 hadd;cases hq:s[k] with
      | mk k' c' s'=>
      rw[hq,a8] at ih;have hpc:bF s[k]=[i64 k',aD c',lstS bF s']:=by rw[hq,a8]
      cases to with
      | nil=>
       repeat' ((conv=>whnf);first|refine Idx.atSE dN k rfl hk2 hpc ?_|exact kQ|(refine bk ?_ ?_<;>intro _<;>try exact exo)|refine stq ?_|refine Cll.emb ih [(0,0),(1,3)] [] (i64 (i:Int)) [(0,.cells [.sl 15 0 ns2.length ns2.length 2 false,boo b] true),(15,.cells (ns2.flatMap ndC) false)] [] rfl cO bxA rdA bxA reA ?_|fail)
       all_goals(conv=>whnf)
       refine⟨k+1,[i],ns2,⟨halt,om,si,by simp at htk ⊢;omega⟩,om,?_⟩;exact lq [(3,_),(4,_)] []
      | cons y ys=>
       have hy2:(y::ys).length=ys.length+1:=rfl;repeat' ((conv=>whnf);first|refine Idx.atSE dN k rfl hk2 hpc ?_|exact kQ|(refine bk ?_ ?_<;>intro _<;>try exact exo)|refine stq ?_|refine Cll.emb ih [(0,0),(1,3)] [] (i64 (i:Int)) [(0,.cells [.sl 15 0 ns2.length ns2.length 2 false,boo b] true),(15,.cells (ns2.flatMap ndC) false)] [(4,.cells ((y::ys).flatMap λk=>[cP k]) false)] rfl cO bxA rdA bxA reA ?_|fail)
       all_goals(conv=>whnf)
       refine⟨k+1,(y::ys)++[i],ns2,⟨halt,om,by simp at hto2 ⊢;omega,by simp at htk ⊢;omega⟩,om,?_⟩;exact lq [(3,_),(4,_)] []
     .cases halt
    .rw[List.drop_eq_nil_of_le om] at halt;simp only[DF,kA,kB] at halt;obtain⟨rfl,rfl⟩:=halt;cases to with
     | nil=>
      repeat' ((conv=>whnf);first|refine cZ.weak (nb:=2) (x:=Code.ret) aB T0 (s0:=⟨tmp 95 [(6,i64 (ns.length:Int))],⟨3,neR (ns++[⟨[],[]⟩]) b⟩⟩) ?_ ?_|exact kQ|(refine bk ?_ ?_<;>intro _<;>try exact exo)|refine stq ?_|(apply Cll.inl aB T0 Tryz.func183 rfl rfl ?_;rotate_left)|refine ac.by (id:=1) aB T0 [0,0,2,6,14,0,32,126,255,511,1023] (by kernel_rfl) ?_|exact⟨Or.inr rfl,rfl,rfl⟩|fail)
      exact lq3 [(2,_)] []
     | cons y ys=>
      repeat' ((conv=>whnf);first|refine cZ.weak (nb:=2) (x:=Code.ret) aB T0 (s0:=⟨tmp 95 [(6,i64 (ns.length:Int))],⟨3,neR (ns++[⟨[],y::ys⟩]) b⟩⟩) ?_ ?_|exact kQ|(refine bk ?_ ?_<;>intro _<;>try exact exo)|refine stq ?_|(apply Cll.inl aB T0 Tryz.func183 rfl rfl ?_;rotate_left)|refine ac.by (id:=1) aB T0 [0,0,2,6,14,0,32,126,255,511,1023] (by kernel_rfl) ?_|exact⟨Or.inr rfl,rfl,rfl⟩|fail)
      exact lq3 [(2,_)] [4]
   .cases h
  rw[if_neg h3] at h;by_cases h4:k=4
  .subst h4;simp only[if_true] at h;cases s with
   | nil=>cases h
   | cons q qs=>
   simp only at h;split at h
   .rename_i hl;cases hadd:lT b F q ns.length (ns++[⟨[],[]⟩]) with
    | none=>simp[hadd] at h
    | some z=>
    obtain⟨i,ns1⟩:=z;simp only[hadd] at h;cases hget:ns1[ns.length]? with
    | none=>simp[hget] at h
    | some n=>
    simp only[hget,kA,kB] at h;obtain⟨rfl,rfl⟩:=h;obtain⟨hlt,hgt⟩:=List.getElem?_eq_some_iff.1 hget;have hfl:(ns1.flatMap ndC).length=ns1.length*2:=aZ (c:=ndC) (sz:=2) (λ_=>rfl) _;have ih:=yU F q ns.length (ns++[⟨[],[]⟩]) i ns1 hadd;cases q with
    | mk k' c' s'=>
    rw[a8] at ih;repeat' ((conv=>whnf);first|refine Idx.atSE (l:=Pat.mk k' c' s' :: qs) dN 0 rfl si (a8 k' c' s') ?_|refine cZ.weak (nb:=2) (x:=Code.ret) aB T0 (s0:=⟨tmp 95 [(6,i64 (ns.length:Int))],⟨3,neR (ns1.set ns.length ⟨n.cls,[i,nx]⟩) b⟩⟩) ?_ ?_|exact kQ|(refine bk ?_ ?_<;>intro _<;>try exact exo)|refine stq ?_|(apply Cll.inl aB T0 Tryz.func183 rfl rfl ?_;rotate_left)|refine ac.by (id:=1) aB T0 [0,0,2,6,14,0,32,126,255,511,1023] (by kernel_rfl) ?_|exact⟨Or.inr rfl,rfl,rfl⟩|refine Cll.emb ih [(0,0),(1,24)] [] (i64 (i:Int)) [(0,.cells [.sl 43 0 ns1.length ns1.length 2 false,boo b] true),(43,.cells (ns1.flatMap ndC) false)] [] rfl cO bxA rdA bxA reA ?_|refine b7.at ns.length om hlt ?_|refine Put.at (by rw[hfl];simp;omega) ?_|fail)
    exact lq3 [(2,_)] [52]
   .cases h
  rw[if_neg h4] at h;split at h
  .rename_i hsl;cases b with
   | true=>
    repeat' ((conv=>whnf);first|exact kQ|(refine bk ?_ ?_<;>intro _<;>try exact exo)|refine stq ?_|fail)
    refine aG.by3 aB T0 (λ(j:Nat) (nx:Nat) (ns:List Nd)=>⟨tmp 95 [(0,.ptr 0 0),(2,i64 (nx:Int)),(4,.ptr 4 0),(70,i64 s.length),(71,i64 (j:Int))],⟨5,[(4,.cells [i64 k,aD c,lstS bF s] true),(0,.cells [.sl 3 0 ns.length ns.length 2 false,boo true] true),(3,.cells (ns.flatMap ndC) false)]⟩⟩)
     (λj nx ns=>yH (lT true F) ((s).drop j) nx ns=some (r,ns')/\j<=s.length) (λj _ _=>s.length-j) 0 nx ns ⟨h,om⟩ ?_ ?_
    .exact lq3 [(3,_),(4,_)] []
    clear h;intro j nx ns ⟨hcat,hj⟩;by_cases hj2:j<s.length
    .rw[kK (by first|omega|(simp;omega))] at hcat;simp only[yH] at hcat;have hix:j<s.length:=om;have hL:(s)[j]'(by first|omega|(simp;omega))=s[j]:=rfl;rw[hL] at hcat;cases hadd:lT true F s[j] nx ns with
     | none=>simp[hadd] at hcat
     | some q=>
     obtain⟨i,ns2⟩:=q;simp only[hadd] at hcat;have ih:=yU F s[j] nx ns i ns2 hadd;cases hq:s[j] with
     | mk k' c' s'=>
     rw[hq,a8] at ih;have hpc:bF s[j]=[i64 k',aD c',lstS bF s']:=by rw[hq,a8]
     repeat' ((conv=>whnf);first|refine Idx.atSE dN (j) om hix hpc ?_|exact kQ|(refine bk ?_ ?_<;>intro _<;>try exact exo)|refine stq ?_|refine Cll.emb ih [(0,0),(1,3)] [] (i64 (i:Int)) [(0,.cells [.sl 21 0 ns2.length ns2.length 2 false,boo true] true),(21,.cells (ns2.flatMap ndC) false)] [(4,.cells [i64 k,aD c,lstS bF s] true)] rfl cO bxA rdA bxA reA ?_|fail)
     all_goals(conv=>whnf)
     refine⟨j+1,i,ns2,⟨hcat,om⟩,om,?_⟩;exact lq [(3,_),(4,_)] []
    .rw[List.drop_eq_nil_of_le (by first|omega|(simp;omega))] at hcat;simp only[yH,kA,kB] at hcat;obtain⟨rfl,rfl⟩:=hcat;repeat' ((conv=>whnf);first|refine cZ.weak (nb:=2) (x:=Code.ret) aB T0 (s0:=⟨tmp 95 [(6,i64 (nx:Int))],⟨3,neR ns true⟩⟩) ?_ ?_|exact kQ|(refine bk ?_ ?_<;>intro _<;>try exact exo)|refine stq ?_|exact⟨Or.inr rfl,rfl,rfl⟩|fail)
     exact lq3 [(2,_)] []
   | false=>
    rw[if_neg si] at h;repeat' ((conv=>whnf);first|exact kQ|(refine bk ?_ ?_<;>intro _<;>try exact exo)|refine stq ?_|fail)
    refine aG.by3 aB T0 (λ(j:Nat) (nx:Nat) (ns:List Nd)=>⟨tmp 95 [(0,.ptr 0 0),(2,i64 (nx:Int)),(4,.ptr 4 0),(70,i64 s.length),(71,i64 (j:Int))],⟨5,[(4,.cells [i64 k,aD c,lstS bF s] true),(0,.cells [.sl 3 0 ns.length ns.length 2 false,boo false] true),(3,.cells (ns.flatMap ndC) false)]⟩⟩)
     (λj nx ns=>yH (lT false F) ((s.reverse).drop j) nx ns=some (r,ns')/\j<=s.length) (λj _ _=>s.length-j) 0 nx ns ⟨h,om⟩ ?_ ?_
    .exact lq3 [(3,_),(4,_)] []
    clear h;intro j nx ns ⟨hcat,hj⟩;by_cases hj2:j<s.length
    .rw[kK (by first|omega|(simp;omega))] at hcat;simp only[yH] at hcat;have hix:(s.length-1-j)<s.length:=by omega
     have hL:(s.reverse)[j]'(by first|omega|(simp;omega))=s[(s.length-1-j)]:=by simp
     rw[hL] at hcat;cases hadd:lT false F s[(s.length-1-j)] nx ns with
     | none=>simp[hadd] at hcat
     | some q=>
     obtain⟨i,ns2⟩:=q;simp only[hadd] at hcat;have ih:=yU F s[(s.length-1-j)] nx ns i ns2 hadd;cases hq:s[(s.length-1-j)] with
     | mk k' c' s'=>
     rw[hq,a8] at ih;have hpc:bF s[(s.length-1-j)]=[i64 k',aD c',lstS bF s']:=by rw[hq,a8]
     repeat' ((conv=>whnf);first|refine Idx.atSE dN ((s.length-1-j)) om hix hpc ?_|exact kQ|(refine bk ?_ ?_<;>intro _<;>try exact exo)|refine stq ?_|refine Cll.emb ih [(0,0),(1,3)] [] (i64 (i:Int)) [(0,.cells [.sl 28 0 ns2.length ns2.length 2 false,boo false] true),(28,.cells (ns2.flatMap ndC) false)] [(4,.cells [i64 k,aD c,lstS bF s] true)] rfl cO bxA rdA bxA reA ?_|fail)
     all_goals(conv=>whnf)
     refine⟨j+1,i,ns2,⟨hcat,om⟩,om,?_⟩;exact lq [(3,_),(4,_)] []
    .rw[List.drop_eq_nil_of_le (by first|omega|(simp;omega))] at hcat;simp only[yH,kA,kB] at hcat;obtain⟨rfl,rfl⟩:=hcat;repeat' ((conv=>whnf);first|refine cZ.weak (nb:=2) (x:=Code.ret) aB T0 (s0:=⟨tmp 95 [(6,i64 (nx:Int))],⟨3,neR ns false⟩⟩) ?_ ?_|exact kQ|(refine bk ?_ ?_<;>intro _<;>try exact exo)|refine stq ?_|exact⟨Or.inr rfl,rfl,rfl⟩|fail)
     exact lq3 [(2,_)] []
  .cases h
end
section
open Go Go.Am Classical
set_option maxRecDepth 100000
theorem xC9.rdX {p:Prop}(h:p:=by first|exact Rd.owns rfl|exact Rd.int sim|exact Rd.sl' rfl sim sim|fail):p:=h
theorem xC9.rbX {p:Prop}(h:p:=by first|exact Rb.map (Res.eqs HJ (dX _ _))|exact Rb.cells (Rds.same (wy (bz _))) rfl|exact Rb.cells (Rds.eqs (aS (c:=blC) (by intro _;rfl) (y::ys) _) (aE (by intro _;rfl) _)) rfl|exact Rb.cells (Rds.eqs (aS (c:=nsC) (by intro _;rfl) (t::ts) _) (aE tK _)) rfl|fail):p:=h
open xC9
variable [GT]
theorem fT.posN {h:aA}{k:Str}{l:List Str}{n:Nat}{K:Option (Nat×D)->Prop}(yes:∀ i,k∈l->K (some (i,i64 ((n+l.idxOf k:Nat):Int)))) (no:¬k∈l->K none):fT h (.str k) (pos l n) K:=by
 obtain⟨r,h1,h2⟩:=oD (h:=h) (k:=k) (l:=l) (n:=n) (i:=0);rcases h2 with⟨h2,rfl⟩|⟨h2,rfl⟩
 .exact⟨_,h1,by simpa using yes _ h2⟩
 .exact⟨_,h1,no h2⟩
section
variable {h:aA}{fz:Nat->Bool}{σ:Nat->Option Nat}
theorem Rd.owns {α:Type}{id id' es:Nat}{l:List α}(hs:σ id'=some id):Rd h fz σ (aP id es l) (aP id' es l):=by
 cases l with
 | nil=>exact .same rfl
 | cons x l=>exact .sl hs
end
abbrev bw (ss:List (List Nat)):List Str:=ss.map eV
abbrev nsC (s:List Nat):List D:=[dG s]
abbrev blC (b:Bool):List D:=[boo b]
theorem tK (s:List Nat):aF (nsC s)=true:=by simp[aF,bz]
theorem wy {d:D}(h:aK d=true):aF [d]=true:=by simp[aF,h]
abbrev mcC (n e:Nat) (b:Bool) (dn dh dr:D):List D:=[i64 n,i64 e,boo b,dn,dh,dr]
abbrev nuB (n e base:Nat) (b:Bool) (ss:List (List Nat)) (next:List (List Nat)) (hits:List Bool) (roots:List Nat):List (Nat×Box):=
 (0,.cells [.map 1] true)::(1,.map (pos (bw ss) base))::(2,.cells [aP 3 1 ss] true)::(4,.cells [.ptr 5 0] true)::(5,.cells (mcC n e b (aP 7 1 next) (aP 6 1 hits) (aP 8 1 roots)) true)::(bK 3 nsC ss++bK 6 blC hits)
theorem Au {base:Nat}{b:Bool}{ns:List Nd}{ss:List (List Nat)}{s:List Nat}(hl:s.length<=1000000) (hs:∀ i (h:i<s.length),s[i]<100) (hk:eV s∈bw ss) :
  AC1 Tryz.prog 141 [dG s,.ptr 0 0,.iptr [i64 (base:Int)],.ptr 2 0,.ptr 4 0,iP ns b]
   ⟨9,[(0,.cells [.map 1] true),(1,.map (pos (bw ss) base))]⟩ (i64 ((base+(bw ss).idxOf (eV s):Nat):Int)) ⟨25,[(0,.cells [.map 1] true),(1,.map (pos (bw ss) base))]⟩:=by
 refine AC1.of_vl aB T0 Tryz.func141 rfl rfl ?_;repeat' ((conv=>whnf);first|exact kQ|(refine bk ?_ ?_<;>intro _<;>try exact exo)|refine stq ?_|refine cp (fd sd sd) ?_|refine cp (fd hl hs) ?_|(refine fT.posN (λ_ _=>?_) (λ_=>?_)<;>(try contradiction))|fail)
 all_goals(conv=>whnf)
 exact⟨Or.inr rfl,rfl,rfl⟩
abbrev nuR (n e base:Nat) (b:Bool) (ss:List (List Nat)) (next:List (List Nat)) (hits:List Bool) (roots:List Nat):List (Nat×Box):=
 [(0,.cells [.map 1] true),(1,.map (pos (bw ss) base)),(2,.cells [.sl 9 0 ss.length ss.length 1 false] true),(9,.cells (ss.flatMap nsC) false),(4,.cells [.ptr 5 0] true),(5,.cells (mcC n e b (aP 7 1 next) (.sl 10 0 hits.length hits.length 1 false) (aP 8 1 roots)) true),(10,.cells (hits.flatMap blC) false)]
theorem HJ {ss:List (List Nat)}{s:List Nat}{base:Nat}:pos (bw ss) base++[(D.str (eV s),i64 ((base:Int)+(ss.length:Int)))]=pos (bw (ss++[s])) base:=by
 simp only[bw,List.map_append,l8];simp[pos]
set_option maxHeartbeats 4000000 in
theorem Eh {n e base F:Nat}{b:Bool}{ns:List Nd}{ss next:List (List Nat)}{s r:List Nat}{hits:List Bool}{roots:List Nat}(hl:s.length<=100000) (hs:∀ i (h:i<s.length),s[i]<100) (hk:¬eV s∈bw ss) (hsl:ss.length<=100000) (hbase:base<=100000)
  (hhl:hits.length=base+ss.length) (hF:F<=100000) (hnl:ns.length<=100000) (hset:∀ i (h:i<s.length),s[i]<ns.length) (hcl:∀ i (h:i<ns.length),ns[i].cls.length<=1000000) (hg:(gat ns (e:Int) s).length<=100000) (hst:stp ns F s (e:Int)=some r) (hrl:r.length<=1000000) :
  AC1 Tryz.prog 141 [dG s,.ptr 0 0,.iptr [i64 (base:Int)],.ptr 2 0,.ptr 4 0,iP ns b]
   ⟨9,nuB n e base b ss next hits roots⟩ (i64 ((base+ss.length:Nat):Int)) ⟨11,nuR n e base b (ss++[s]) next (hits++[decide (r=[0])]) roots⟩:=by
 have hstep:=Dr (b:=b) hF hnl hset om hcl hg hst;have hend:=BH (l:=r) hrl;have hl1:s.length<=1000000:=om;refine AC1.of_vl aB T0 Tryz.func141 rfl rfl ?_;cases ss with
 | nil=>
  cases hits with
  | nil=>
   repeat' ((conv=>whnf);first|refine cZ.weak (nb:=9) (x:=Code.ret) aB T0 (s0:=⟨tmp 49 [(7,i64 ((base+(([]:List (List Nat))).length:Nat):Int))],⟨11,nuR n e base b (([]:List (List Nat))++[s]) next ([]++[decide (r=[0])]) roots⟩⟩) ?_ ?_|exact kQ|(refine bk ?_ ?_<;>intro _<;>try exact exo)|refine stq ?_|refine cp (fd sd sd) ?_|refine cp (fd hl1 hs) ?_|(refine fT.posN (λ_ _=>?_) (λ_=>?_)<;>(try contradiction))|refine ac.by (id:=7) aB T0 [0,0,2,6,14,0,0,64,192,448,992,2016,4064,8190,16383,32767,65535] (by kernel_rfl) ?_|refine cp hstep ?_|refine cp hend ?_|refine Chk.mk ⟨_,rfl⟩ ?_|exact⟨Or.inr rfl,rfl,rfl⟩|fail)
   exact lq [(9,_),(10,_)] []
  | cons y ys=>
   have hy2:(y::ys).length=ys.length+1:=rfl;repeat' ((conv=>whnf);first|refine cZ.weak (nb:=9) (x:=Code.ret) aB T0 (s0:=⟨tmp 49 [(7,i64 ((base+(([]:List (List Nat))).length:Nat):Int))],⟨11,nuR n e base b (([]:List (List Nat))++[s]) next ((y::ys)++[decide (r=[0])]) roots⟩⟩) ?_ ?_|exact kQ|(refine bk ?_ ?_<;>intro _<;>try exact exo)|refine stq ?_|refine cp (fd sd sd) ?_|refine cp (fd hl1 hs) ?_|(refine fT.posN (λ_ _=>?_) (λ_=>?_)<;>(try contradiction))|refine ac.by (id:=7) aB T0 [0,0,2,6,14,0,0,64,192,448,992,2016,4064,8190,16383,32767,65535] (by kernel_rfl) ?_|refine cp hstep ?_|refine cp hend ?_|refine Chk.mk ⟨_,rfl⟩ ?_|exact⟨Or.inr rfl,rfl,rfl⟩|fail)
   exact lq [(9,_),(10,_)] []
 | cons t ts=>
  obtain⟨y,ys,rfl⟩:=kI (show 0<hits.length by simp at hhl;omega);have hy2:(y::ys).length=ys.length+1:=rfl;have ht2:(t::ts).length=ts.length+1:=rfl;repeat' ((conv=>whnf);first|refine cZ.weak (nb:=9) (x:=Code.ret) aB T0 (s0:=⟨tmp 49 [(7,i64 ((base+((t::ts)).length:Nat):Int))],⟨11,nuR n e base b ((t::ts)++[s]) next ((y::ys)++[decide (r=[0])]) roots⟩⟩) ?_ ?_|exact kQ|(refine bk ?_ ?_<;>intro _<;>try exact exo)|refine stq ?_|refine cp (fd sd sd) ?_|refine cp (fd hl1 hs) ?_|(refine fT.posN (λ_ _=>?_) (λ_=>?_)<;>(try contradiction))|refine ac.by (id:=7) aB T0 [0,0,2,6,14,0,0,64,192,448,992,2016,4064,8190,16383,32767,65535] (by kernel_rfl) ?_|refine cp hstep ?_|refine cp hend ?_|refine Chk.mk ⟨_,rfl⟩ ?_|exact⟨Or.inr rfl,rfl,rfl⟩|fail)
  exact lq [(9,_),(10,_)] []
end
end Go.Proofs.YtpgcjpcenaefpaaGreatDoor
