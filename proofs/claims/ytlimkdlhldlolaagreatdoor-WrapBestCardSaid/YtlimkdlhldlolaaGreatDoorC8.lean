/-
  Contracts of functions over data: nets of patterns.
-/
import Derived.Test.YtlimkdlhldlolaaGreatDoorC7
set_option linter.unusedSectionVars false
namespace Go.Proofs.YtlimkdlhldlolaaGreatDoor
set_option maxHeartbeats 8000000
set_option maxRecDepth 100000
section
open Go Go.Am Classical
theorem xC8.rdX {p:Prop}(h:p:=by first|exact Rd.same (fQ _ _ _)|exact Rd.own (l:=(y::ys)++[i]) sim rfl sim sim|exact Rd.sl' rfl sim sim|exact Rd.int sim|fail):p:=h
theorem xC8.rbX {p:Prop}(h:p:=by first|exact Rb.cells (Rds.eqs (aQ (c:=λk=>[cR k]) (by intro _;rfl) (y::ys) _) (aE (by intro _;rfl) _)) rfl|exact Rb.cells (Rds.same (fQ _ _ _)) rfl|exact Rb.cells (vG (Rd.same (aM _)) (nS (l:=[nx]) rfl rfl rfl)) rfl|exact Rb.cells (vG (n:=⟨[],[]⟩) Rd.nil Rd.nil) rfl|exact Rb.cells (vG (n:=⟨[],y::ys⟩) Rd.nil (nS (l:=y::ys) rfl rfl (aN _))) rfl|exact Rb.cells (Hy hget sim (nS (l:=[i,nx]) rfl rfl rfl)) rfl|fail):p:=h
open xC8
variable [GT]
inductive Pat where
 | mk (kind:Int) (cls:List Int) (subs:List Pat)
mutual
def bJ:Pat->List D
 | .mk k c s=>[i64 k,aC c,.imm s.length (qf s)]
def qf:List Pat->List D
 | []=>[]
 | p::l=>bJ p++qf l
end
theorem qe:∀ l,qf l=l.flatMap bJ
 | []=>rfl
 | p::l=>by simp[qf,qe l]
theorem bB (k:Int) (c:List Int) (s:List Pat):bJ (.mk k c s)=[i64 k,aC c,lstS bJ s]:=by simp[bJ,qe,lstS]
theorem dN:∀ p,(bJ p).length=3
 | .mk _ _ _=>by simp[bJ]
mutual
theorem eF:∀ p,aF (bJ p)=true
 | .mk k c s=>by
  simp only[bJ,aF,aM,Bool.and_true,Bool.true_and];exact(show(true&&aK (.imm s.length (qf s)))=true from by rw[Bool.true_and];exact ot s)
theorem ot:∀ l,aF (qf l)=true
 | []=>rfl
 | p::l=>by rw[qf,dq,eF p,ot l];rfl
end
theorem qm (l:List Pat):aK (lstS bJ l)=true:=fS eF l
theorem lH (n:Nd):aF (ndC n)=true:=by simp[aF,aM,b9]
def Hi (ns:List Nd) (n:Nd):Option (Nat×List Nd):=if ns.length<=10000 then some (ns.length,ns++[n]) else none
def Dc (add:Pat->Nat->List Nd->Option (Nat×List Nd)):List Pat->Nat->List Nat->List Nd->Option (List Nat×List Nd)
 | [],_,to,ns=>some (to,ns)
 | p::l,nx,to,ns=>
  match add p nx ns with
  | some (i,ns')=>if to.length<=10000 then Dc add l nx (to++[i]) ns' else none
  | none=>none
def yW (add:Pat->Nat->List Nd->Option (Nat×List Nd)):List Pat->Nat->List Nd->Option (Nat×List Nd)
 | [],nx,ns=>some (nx,ns)
 | p::l,nx,ns=>
  match add p nx ns with
  | some (i,ns')=>yW add l i ns'
  | none=>none
def lb (b:Bool):Nat->Pat->Nat->List Nd->Option (Nat×List Nd)
 | 0,_,_,_=>none
 | f+1,.mk k c s,nx,ns=>
  if k=1 then Hi ns ⟨c,[nx]⟩
  else if k=3 then
   match Dc (lb b f) s nx [] ns with
   | some (to,ns')=>Hi ns' ⟨[],to⟩
   | none=>none
  else if k=4 then
   match s with
   | []=>none
   | q::_=>
    if ns.length<=10000 then
     match lb b f q ns.length (ns++[⟨[],[]⟩]) with
     | some (i,ns')=>(match ns'[ns.length]? with|some n=>some (ns.length,ns'.set ns.length ⟨n.cls,[i,nx]⟩)|none=>none)
     | none=>none
    else none
  else if s.length<=10000 then yW (lb b f) (if b then s else s.reverse) nx ns else none
abbrev neB (ns:List Nd) (b:Bool):List (Nat×Box):=[(0,.cells [.sl 1 0 ns.length ns.length 2 false,boo b] true),(1,.cells (ns.flatMap ndC) false)]
abbrev neR (ns:List Nd) (b:Bool):List (Nat×Box):=[(0,.cells [.sl 2 0 ns.length ns.length 2 false,boo b] true),(2,.cells (ns.flatMap ndC) false)]
section
variable {h:aA}{fz:Nat->Bool}{σ:Nat->Option Nat}
theorem vG {l:List Nd}{n:Nd}{d d':D}(hd:Rd h fz σ d (aC n.cls)) (hd':Rd h fz σ d' (dI n.to)):Rds h fz σ (((l.flatMap ndC).drop 0).take (l.length*2)++[d,d']) ((l++[n]).flatMap ndC):=by
 rw[List.flatMap_append];refine Rds.app (.eqs ?_ (aE lH _)) (.cons hd (.cons hd' .nil));rw[List.drop_zero,kE (by rw[aa (sz:=2) (λ_=>rfl)];exact kP _)]
theorem nS {id:Nat}{l:List Nat}{ex bx:Bool}{cs:List D}(hf:fz id=true) (hg:h.get id=some (.cells cs bx)) (e:cs=l.map cR):Rd h fz σ (.sl id 0 l.length l.length 1 ex) (dI l):=by
 subst e;refine .frz hf hg si (.eqs ?_ (aU (λ_=>rfl) _));rw[List.drop_zero,kE si]
end
theorem xK:∀ {l:List Nd}{k:Nat}{n:Nd}(to:List Nat),l[k]?=some n->(l.flatMap ndC).set (k*2+1) (dI to)=(l.set k ⟨n.cls,to⟩).flatMap ndC
 | [],_,_,_,h=>by simp at h
 | m::l,0,n,to,h=>by simp at h;subst h;rfl
 | m::l,k+1,n,to,h=>by
  have ih:=xK (l:=l) (k:=k) (n:=n) to (by simpa using h);rw[show(k+1)*2+1=(k*2+1)+1+1 from om];simp only[List.flatMap_cons,List.set_cons_succ,List.cons_append,List.nil_append];rw[ih]
theorem Hy {h:aA}{fz:Nat->Bool}{σ:Nat->Option Nat}{l:List Nd}{k off:Nat}{n:Nd}{to:List Nat}{d:D}(hk:l[k]?=some n) (ho:off=k*2+1) (hd:Rd h fz σ d (dI to)):Rds h fz σ ((l.flatMap ndC).set off d) ((l.set k ⟨n.cls,to⟩).flatMap ndC):=by
 subst ho;exact Rds.tr rfl (xK to hk) (Rds.at hd _ (aE lH _))
theorem Idx.atSE {α:Type}{c:α->List D}{sz:Nat}(hc:∀ x,(c x).length=sz){l:List α}{m:Int}(k:Nat){ds:List D}{K:D->Prop}(e:m=(k:Int)) (h:k<l.length) (ed:c l[k]=ds) (go:K (.iptr ds)):Idx l.length (l.flatMap c) sz m K:=Idx.atS hc k e h (by rw[ed];exact go)
theorem fQ (k:Int) (c:List Int) (s:List Pat):aK (.agg [i64 k,aC c,lstS bJ s])=true:=by
 have:=eF (.mk k c s)
 rw[bB] at this;exact this
theorem yk {b:Bool}:∀ (F:Nat) (p:Pat) (nx:Nat) (ns:List Nd) (r:Nat) (ns':List Nd),lb b F p nx ns=some (r,ns') ->
  AC1 Tryz.prog 150 [.ptr 0 0,.agg (bJ p),i64 (nx:Int)] ⟨2,neB ns b⟩ (i64 (r:Int)) ⟨3,neR ns' b⟩
 | 0,_,_,_,_,_,h=>by simp[lb] at h
 | F+1,.mk k c s,nx,ns,r,ns',h=>by
  rw[bB];refine AC1.of_vl aB T0 Tryz.func150 rfl rfl ?_;simp only[lb] at h;by_cases h1:k=1
  .subst h1;simp only[if_true,Hi] at h;split at h
   .rename_i hl;simp only[kA,kB] at h;obtain⟨rfl,rfl⟩:=h;repeat' ((conv=>whnf);first|refine bX.weak (nb:=2) (x:=Code.ret) aB T0 (s0:=⟨tmp 95 [(6,i64 (ns.length:Int))],⟨3,neR (ns++[⟨c,[nx]⟩]) b⟩⟩) ?_ ?_|exact kQ|(refine bk ?_ ?_<;>intro _<;>try exact exo)|refine stq ?_|(apply Cll.inl aB T0 Tryz.func184 rfl rfl ?_;rotate_left)|refine ac.by (id:=1) aB T0 [0,0,2,6,14,0,32,126,255,511,1023] (by kernel_rfl) ?_|exact⟨Or.inr rfl,rfl,rfl⟩|fail)
    .exact lq3 [(2,_)] [12]
   .cases h
  rw[if_neg h1] at h;by_cases h3:k=3
  .subst h3;simp only[if_true] at h;cases halt:Dc (lb b F) s nx [] ns with
   | none=>simp[halt] at h
   | some q=>
   obtain⟨to',ns1⟩:=q;simp only[halt,Hi] at h;split at h
   .rename_i hl;simp only[kA,kB] at h;obtain⟨rfl,rfl⟩:=h;repeat' ((conv=>whnf);first|exact kQ|(refine bk ?_ ?_<;>intro _<;>try exact exo)|refine stq ?_|fail)
    refine aG.by3 aB T0 (λ(k:Nat) (to:List Nat) (ns:List Nd)=>⟨tmp 95 [(0,.ptr 0 0),(2,i64 (nx:Int)),(7,aP 4 1 to),(27,lstS bJ s),(28,i64 s.length),(29,i64 (k:Int))],⟨5,bS 4 (λk=>[cR k]) to++[(0,.cells [.sl 3 0 ns.length ns.length 2 false,boo b] true),(3,.cells (ns.flatMap ndC) false)]⟩⟩)
     (λk to ns=>Dc (lb b F) (s.drop k) nx to ns=some (to',ns1)/\k<=s.length/\to.length<=10001/\to.length=k) (λk _ _=>s.length-k) 0 [] ns ⟨halt,om,si,rfl⟩ ?_ ?_
    .exact lq3 [(3,_)] []
    clear halt;intro k to ns ⟨halt,hk,hto,htk⟩;by_cases hk2:k<s.length
    .rw[kK hk2] at halt;simp only[Dc] at halt;cases hadd:lb b F s[k] nx ns with
     | none=>simp[hadd] at halt
     | some q=>
     obtain⟨i,ns2⟩:=q;simp only[hadd] at halt;split at halt
     .rename_i hto2;have ih:=yk F s[k] nx ns i ns2 hadd;cases hq:s[k] with
      | mk k' c' s'=>
      rw[hq,bB] at ih;have hpc:bJ s[k]=[i64 k',aC c',lstS bJ s']:=by rw[hq,bB]
      cases to with
      | nil=>
       repeat' ((conv=>whnf);first|refine Idx.atSE dN k rfl hk2 hpc ?_|exact kQ|(refine bk ?_ ?_<;>intro _<;>try exact exo)|refine stq ?_|refine Cll.emb ih [(0,0),(1,3)] [] (i64 (i:Int)) [(0,.cells [.sl 15 0 ns2.length ns2.length 2 false,boo b] true),(15,.cells (ns2.flatMap ndC) false)] [] rfl cO bxA rdA bxA reA ?_|fail)
       (conv=>whnf)
       refine⟨k+1,[i],ns2,⟨halt,om,si,by simp at htk ⊢;omega⟩,om,?_⟩;exact lq [(3,_),(4,_)] []
      | cons y ys=>
       have hy2:(y::ys).length=ys.length+1:=rfl;repeat' ((conv=>whnf);first|refine Idx.atSE dN k rfl hk2 hpc ?_|exact kQ|(refine bk ?_ ?_<;>intro _<;>try exact exo)|refine stq ?_|refine Cll.emb ih [(0,0),(1,3)] [] (i64 (i:Int)) [(0,.cells [.sl 15 0 ns2.length ns2.length 2 false,boo b] true),(15,.cells (ns2.flatMap ndC) false)] [(4,.cells ((y::ys).flatMap λk=>[cR k]) false)] rfl cO bxA rdA bxA reA ?_|fail)
       (conv=>whnf)
       refine⟨k+1,(y::ys)++[i],ns2,⟨halt,om,by simp at hto2 ⊢;omega,by simp at htk ⊢;omega⟩,om,?_⟩;exact lq [(3,_),(4,_)] []
     .cases halt
    .rw[List.drop_eq_nil_of_le om] at halt;simp only[Dc,kA,kB] at halt;obtain⟨rfl,rfl⟩:=halt;cases to with
     | nil=>
      repeat' ((conv=>whnf);first|refine bX.weak (nb:=2) (x:=Code.ret) aB T0 (s0:=⟨tmp 95 [(6,i64 (ns.length:Int))],⟨3,neR (ns++[⟨[],[]⟩]) b⟩⟩) ?_ ?_|exact kQ|(refine bk ?_ ?_<;>intro _<;>try exact exo)|refine stq ?_|(apply Cll.inl aB T0 Tryz.func184 rfl rfl ?_;rotate_left)|refine ac.by (id:=1) aB T0 [0,0,2,6,14,0,32,126,255,511,1023] (by kernel_rfl) ?_|exact⟨Or.inr rfl,rfl,rfl⟩|fail)
      exact lq3 [(2,_)] []
     | cons y ys=>
      repeat' ((conv=>whnf);first|refine bX.weak (nb:=2) (x:=Code.ret) aB T0 (s0:=⟨tmp 95 [(6,i64 (ns.length:Int))],⟨3,neR (ns++[⟨[],y::ys⟩]) b⟩⟩) ?_ ?_|exact kQ|(refine bk ?_ ?_<;>intro _<;>try exact exo)|refine stq ?_|(apply Cll.inl aB T0 Tryz.func184 rfl rfl ?_;rotate_left)|refine ac.by (id:=1) aB T0 [0,0,2,6,14,0,32,126,255,511,1023] (by kernel_rfl) ?_|exact⟨Or.inr rfl,rfl,rfl⟩|fail)
      exact lq3 [(2,_)] [4]
   .cases h
  rw[if_neg h3] at h;by_cases h4:k=4
  .subst h4;simp only[if_true] at h;cases s with
   | nil=>cases h
   | cons q qs=>
   simp only at h;split at h
   .rename_i hl;cases hadd:lb b F q ns.length (ns++[⟨[],[]⟩]) with
    | none=>simp[hadd] at h
    | some z=>
    obtain⟨i,ns1⟩:=z;simp only[hadd] at h;cases hget:ns1[ns.length]? with
    | none=>simp[hget] at h
    | some n=>
    simp only[hget,kA,kB] at h;obtain⟨rfl,rfl⟩:=h;obtain⟨hlt,hgt⟩:=List.getElem?_eq_some_iff.1 hget;have hfl:(ns1.flatMap ndC).length=ns1.length*2:=aa (c:=ndC) (sz:=2) (λ_=>rfl) _;have ih:=yk F q ns.length (ns++[⟨[],[]⟩]) i ns1 hadd;cases q with
    | mk k' c' s'=>
    rw[bB] at ih;repeat' ((conv=>whnf);first|refine Idx.atSE (l:=Pat.mk k' c' s' :: qs) dN 0 rfl si (bB k' c' s') ?_|refine bX.weak (nb:=2) (x:=Code.ret) aB T0 (s0:=⟨tmp 95 [(6,i64 (ns.length:Int))],⟨3,neR (ns1.set ns.length ⟨n.cls,[i,nx]⟩) b⟩⟩) ?_ ?_|exact kQ|(refine bk ?_ ?_<;>intro _<;>try exact exo)|refine stq ?_|(apply Cll.inl aB T0 Tryz.func184 rfl rfl ?_;rotate_left)|refine ac.by (id:=1) aB T0 [0,0,2,6,14,0,32,126,255,511,1023] (by kernel_rfl) ?_|exact⟨Or.inr rfl,rfl,rfl⟩|refine Cll.emb ih [(0,0),(1,24)] [] (i64 (i:Int)) [(0,.cells [.sl 43 0 ns1.length ns1.length 2 false,boo b] true),(43,.cells (ns1.flatMap ndC) false)] [] rfl cO bxA rdA bxA reA ?_|refine bT.at ns.length om hlt ?_|refine Put.at (by rw[hfl];simp;omega) ?_|fail)
    exact lq3 [(2,_)] [52]
   .cases h
  rw[if_neg h4] at h;split at h
  .rename_i hsl;cases b with
   | true=>
    repeat' ((conv=>whnf);first|exact kQ|(refine bk ?_ ?_<;>intro _<;>try exact exo)|refine stq ?_|fail)
    refine aG.by3 aB T0 (λ(j:Nat) (nx:Nat) (ns:List Nd)=>⟨tmp 95 [(0,.ptr 0 0),(2,i64 (nx:Int)),(4,.ptr 4 0),(70,i64 s.length),(71,i64 (j:Int))],⟨5,[(4,.cells [i64 k,aC c,lstS bJ s] true),(0,.cells [.sl 3 0 ns.length ns.length 2 false,boo true] true),(3,.cells (ns.flatMap ndC) false)]⟩⟩)
     (λj nx ns=>yW (lb true F) ((s).drop j) nx ns=some (r,ns')/\j<=s.length) (λj _ _=>s.length-j) 0 nx ns ⟨h,om⟩ ?_ ?_
    .exact lq3 [(3,_),(4,_)] []
    clear h;intro j nx ns ⟨hcat,hj⟩;by_cases hj2:j<s.length
    .rw[kK (by first|omega|(simp;omega))] at hcat;simp only[yW] at hcat;have hix:j<s.length:=om;have hL:(s)[j]'(by first|omega|(simp;omega))=s[j]:=rfl;rw[hL] at hcat;cases hadd:lb true F s[j] nx ns with
     | none=>simp[hadd] at hcat
     | some q=>
     obtain⟨i,ns2⟩:=q;simp only[hadd] at hcat;have ih:=yk F s[j] nx ns i ns2 hadd;cases hq:s[j] with
     | mk k' c' s'=>
     rw[hq,bB] at ih;have hpc:bJ s[j]=[i64 k',aC c',lstS bJ s']:=by rw[hq,bB]
     repeat' ((conv=>whnf);first|refine Idx.atSE dN (j) om hix hpc ?_|exact kQ|(refine bk ?_ ?_<;>intro _<;>try exact exo)|refine stq ?_|refine Cll.emb ih [(0,0),(1,3)] [] (i64 (i:Int)) [(0,.cells [.sl 21 0 ns2.length ns2.length 2 false,boo true] true),(21,.cells (ns2.flatMap ndC) false)] [(4,.cells [i64 k,aC c,lstS bJ s] true)] rfl cO bxA rdA bxA reA ?_|fail)
     (conv=>whnf)
     refine⟨j+1,i,ns2,⟨hcat,om⟩,om,?_⟩;exact lq [(3,_),(4,_)] []
    .rw[List.drop_eq_nil_of_le (by first|omega|(simp;omega))] at hcat;simp only[yW,kA,kB] at hcat;obtain⟨rfl,rfl⟩:=hcat;repeat' ((conv=>whnf);first|refine bX.weak (nb:=2) (x:=Code.ret) aB T0 (s0:=⟨tmp 95 [(6,i64 (nx:Int))],⟨3,neR ns true⟩⟩) ?_ ?_|exact kQ|(refine bk ?_ ?_<;>intro _<;>try exact exo)|refine stq ?_|exact⟨Or.inr rfl,rfl,rfl⟩|fail)
     exact lq3 [(2,_)] []
   | false=>
    rw[if_neg si] at h;repeat' ((conv=>whnf);first|exact kQ|(refine bk ?_ ?_<;>intro _<;>try exact exo)|refine stq ?_|fail)
    refine aG.by3 aB T0 (λ(j:Nat) (nx:Nat) (ns:List Nd)=>⟨tmp 95 [(0,.ptr 0 0),(2,i64 (nx:Int)),(4,.ptr 4 0),(70,i64 s.length),(71,i64 (j:Int))],⟨5,[(4,.cells [i64 k,aC c,lstS bJ s] true),(0,.cells [.sl 3 0 ns.length ns.length 2 false,boo false] true),(3,.cells (ns.flatMap ndC) false)]⟩⟩)
     (λj nx ns=>yW (lb false F) ((s.reverse).drop j) nx ns=some (r,ns')/\j<=s.length) (λj _ _=>s.length-j) 0 nx ns ⟨h,om⟩ ?_ ?_
    .exact lq3 [(3,_),(4,_)] []
    clear h;intro j nx ns ⟨hcat,hj⟩;by_cases hj2:j<s.length
    .rw[kK (by first|omega|(simp;omega))] at hcat;simp only[yW] at hcat;have hix:(s.length-1-j)<s.length:=by omega
     have hL:(s.reverse)[j]'(by first|omega|(simp;omega))=s[(s.length-1-j)]:=by simp
     rw[hL] at hcat;cases hadd:lb false F s[(s.length-1-j)] nx ns with
     | none=>simp[hadd] at hcat
     | some q=>
     obtain⟨i,ns2⟩:=q;simp only[hadd] at hcat;have ih:=yk F s[(s.length-1-j)] nx ns i ns2 hadd;cases hq:s[(s.length-1-j)] with
     | mk k' c' s'=>
     rw[hq,bB] at ih;have hpc:bJ s[(s.length-1-j)]=[i64 k',aC c',lstS bJ s']:=by rw[hq,bB]
     repeat' ((conv=>whnf);first|refine Idx.atSE dN ((s.length-1-j)) om hix hpc ?_|exact kQ|(refine bk ?_ ?_<;>intro _<;>try exact exo)|refine stq ?_|refine Cll.emb ih [(0,0),(1,3)] [] (i64 (i:Int)) [(0,.cells [.sl 28 0 ns2.length ns2.length 2 false,boo false] true),(28,.cells (ns2.flatMap ndC) false)] [(4,.cells [i64 k,aC c,lstS bJ s] true)] rfl cO bxA rdA bxA reA ?_|fail)
     (conv=>whnf)
     refine⟨j+1,i,ns2,⟨hcat,om⟩,om,?_⟩;exact lq [(3,_),(4,_)] []
    .rw[List.drop_eq_nil_of_le (by first|omega|(simp;omega))] at hcat;simp only[yW,kA,kB] at hcat;obtain⟨rfl,rfl⟩:=hcat;repeat' ((conv=>whnf);first|refine bX.weak (nb:=2) (x:=Code.ret) aB T0 (s0:=⟨tmp 95 [(6,i64 (nx:Int))],⟨3,neR ns false⟩⟩) ?_ ?_|exact kQ|(refine bk ?_ ?_<;>intro _<;>try exact exo)|refine stq ?_|exact⟨Or.inr rfl,rfl,rfl⟩|fail)
     exact lq3 [(2,_)] []
  .cases h
end
section
open Go Go.Am Classical
theorem xC9.rdX {p:Prop}(h:p:=by first|exact Rd.owns rfl|exact Rd.int sim|exact Rd.sl' rfl sim sim|fail):p:=h
theorem xC9.rbX {p:Prop}(h:p:=by first|exact Rb.map (Res.eqs uv (dZ _ _))|exact Rb.cells (Rds.same (xI (b9 _))) rfl|exact Rb.cells (Rds.eqs (aQ (c:=blC) (by intro _;rfl) (y::ys) _) (aE (by intro _;rfl) _)) rfl|exact Rb.cells (Rds.eqs (aQ (c:=nsC) (by intro _;rfl) (t::ts) _) (aE tU _)) rfl|fail):p:=h
open xC9
variable [GT]
theorem fW.posN {h:aA}{k:Str}{l:List Str}{n:Nat}{K:Option (Nat×D)->Prop}(yes:∀ i,k∈l->K (some (i,i64 ((n+l.idxOf k:Nat):Int)))) (no:¬k∈l->K none):fW h (.str k) (pos l n) K:=by
 obtain⟨r,h1,h2⟩:=oN (h:=h) (k:=k) (l:=l) (n:=n) (i:=0);rcases h2 with⟨h2,rfl⟩|⟨h2,rfl⟩
 .exact⟨_,h1,by simpa using yes _ h2⟩
 .exact⟨_,h1,no h2⟩
section
variable {h:aA}{fz:Nat->Bool}{σ:Nat->Option Nat}
theorem Rd.owns {α:Type}{id id' es:Nat}{l:List α}(hs:σ id'=some id):Rd h fz σ (aP id es l) (aP id' es l):=by
 cases l with
 | nil=>exact .same rfl
 | cons x l=>exact .sl hs
end
abbrev b8 (ss:List (List Nat)):List Str:=ss.map ee
abbrev nsC (s:List Nat):List D:=[dI s]
abbrev blC (b:Bool):List D:=[boo b]
theorem tU (s:List Nat):aF (nsC s)=true:=by simp[aF,b9]
theorem xI {d:D}(h:aK d=true):aF [d]=true:=by simp[aF,h]
abbrev mcC (n e:Nat) (b:Bool) (dn dh dr:D):List D:=[i64 n,i64 e,boo b,dn,dh,dr]
abbrev nuB (n e base:Nat) (b:Bool) (ss:List (List Nat)) (next:List (List Nat)) (hits:List Bool) (roots:List Nat):List (Nat×Box):=
 (0,.cells [.map 1] true)::(1,.map (pos (b8 ss) base))::(2,.cells [aP 3 1 ss] true)::(4,.cells [.ptr 5 0] true)::(5,.cells (mcC n e b (aP 7 1 next) (aP 6 1 hits) (aP 8 1 roots)) true)::(bS 3 nsC ss++bS 6 blC hits)
theorem BB {base:Nat}{b:Bool}{ns:List Nd}{ss:List (List Nat)}{s:List Nat}(hl:s.length<=1000000) (hs:∀ i (h:i<s.length),s[i]<100) (hk:ee s∈b8 ss) :
  AC1 Tryz.prog 146 [dI s,.ptr 0 0,.iptr [i64 (base:Int)],.ptr 2 0,.ptr 4 0,iP ns b]
   ⟨9,[(0,.cells [.map 1] true),(1,.map (pos (b8 ss) base))]⟩ (i64 ((base+(b8 ss).idxOf (ee s):Nat):Int)) ⟨25,[(0,.cells [.map 1] true),(1,.map (pos (b8 ss) base))]⟩:=by
 refine AC1.of_vl aB T0 Tryz.func146 rfl rfl ?_;repeat' ((conv=>whnf);first|exact kQ|(refine bk ?_ ?_<;>intro _<;>try exact exo)|refine stq ?_|refine cp (fg sd sd) ?_|refine cp (fg hl hs) ?_|(refine fW.posN (λ_ _=>?_) (λ_=>?_)<;>(try contradiction))|fail)
 (conv=>whnf)
 exact⟨Or.inr rfl,rfl,rfl⟩
abbrev nuR (n e base:Nat) (b:Bool) (ss:List (List Nat)) (next:List (List Nat)) (hits:List Bool) (roots:List Nat):List (Nat×Box):=
 [(0,.cells [.map 1] true),(1,.map (pos (b8 ss) base)),(2,.cells [.sl 9 0 ss.length ss.length 1 false] true),(9,.cells (ss.flatMap nsC) false),(4,.cells [.ptr 5 0] true),(5,.cells (mcC n e b (aP 7 1 next) (.sl 10 0 hits.length hits.length 1 false) (aP 8 1 roots)) true),(10,.cells (hits.flatMap blC) false)]
theorem uv {ss:List (List Nat)}{s:List Nat}{base:Nat}:pos (b8 ss) base++[(D.str (ee s),i64 ((base:Int)+(ss.length:Int)))]=pos (b8 (ss++[s])) base:=by
 simp only[b8,List.map_append,mI];simp[pos]
theorem E5 {n e base F:Nat}{b:Bool}{ns:List Nd}{ss next:List (List Nat)}{s r:List Nat}{hits:List Bool}{roots:List Nat}(hl:s.length<=100000) (hs:∀ i (h:i<s.length),s[i]<100) (hk:¬ee s∈b8 ss) (hsl:ss.length<=100000) (hbase:base<=100000)
  (hhl:hits.length=base+ss.length) (hF:F<=100000) (hnl:ns.length<=100000) (hset:∀ i (h:i<s.length),s[i]<ns.length) (hcl:∀ i (h:i<ns.length),ns[i].cls.length<=1000000) (hg:(gat ns (e:Int) s).length<=100000) (hst:stp ns F s (e:Int)=some r) (hrl:r.length<=1000000) :
  AC1 Tryz.prog 146 [dI s,.ptr 0 0,.iptr [i64 (base:Int)],.ptr 2 0,.ptr 4 0,iP ns b]
   ⟨9,nuB n e base b ss next hits roots⟩ (i64 ((base+ss.length:Nat):Int)) ⟨11,nuR n e base b (ss++[s]) next (hits++[decide (r=[0])]) roots⟩:=by
 have hstep:=ED (b:=b) hF hnl hset om hcl hg hst;have hend:=BZ (l:=r) hrl;have hl1:s.length<=1000000:=om;refine AC1.of_vl aB T0 Tryz.func146 rfl rfl ?_;cases ss with
 | nil=>
  cases hits with
  | nil=>
   repeat' ((conv=>whnf);first|refine bX.weak (nb:=9) (x:=Code.ret) aB T0 (s0:=⟨tmp 49 [(7,i64 ((base+(([]:List (List Nat))).length:Nat):Int))],⟨11,nuR n e base b (([]:List (List Nat))++[s]) next ([]++[decide (r=[0])]) roots⟩⟩) ?_ ?_|exact kQ|(refine bk ?_ ?_<;>intro _<;>try exact exo)|refine stq ?_|refine cp (fg sd sd) ?_|refine cp (fg hl1 hs) ?_|(refine fW.posN (λ_ _=>?_) (λ_=>?_)<;>(try contradiction))|refine ac.by (id:=7) aB T0 [0,0,2,6,14,0,0,64,192,448,992,2016,4064,8190,16383,32767,65535] (by kernel_rfl) ?_|refine cp hstep ?_|refine cp hend ?_|refine Chk.mk ⟨_,rfl⟩ ?_|exact⟨Or.inr rfl,rfl,rfl⟩|fail)
   exact lq [(9,_),(10,_)] []
  | cons y ys=>
   have hy2:(y::ys).length=ys.length+1:=rfl;repeat' ((conv=>whnf);first|refine bX.weak (nb:=9) (x:=Code.ret) aB T0 (s0:=⟨tmp 49 [(7,i64 ((base+(([]:List (List Nat))).length:Nat):Int))],⟨11,nuR n e base b (([]:List (List Nat))++[s]) next ((y::ys)++[decide (r=[0])]) roots⟩⟩) ?_ ?_|exact kQ|(refine bk ?_ ?_<;>intro _<;>try exact exo)|refine stq ?_|refine cp (fg sd sd) ?_|refine cp (fg hl1 hs) ?_|(refine fW.posN (λ_ _=>?_) (λ_=>?_)<;>(try contradiction))|refine ac.by (id:=7) aB T0 [0,0,2,6,14,0,0,64,192,448,992,2016,4064,8190,16383,32767,65535] (by kernel_rfl) ?_|refine cp hstep ?_|refine cp hend ?_|refine Chk.mk ⟨_,rfl⟩ ?_|exact⟨Or.inr rfl,rfl,rfl⟩|fail)
   exact lq [(9,_),(10,_)] []
 | cons t ts=>
  obtain⟨y,ys,rfl⟩:=kI (show 0<hits.length by simp at hhl;omega);have hy2:(y::ys).length=ys.length+1:=rfl;have ht2:(t::ts).length=ts.length+1:=rfl;repeat' ((conv=>whnf);first|refine bX.weak (nb:=9) (x:=Code.ret) aB T0 (s0:=⟨tmp 49 [(7,i64 ((base+((t::ts)).length:Nat):Int))],⟨11,nuR n e base b ((t::ts)++[s]) next ((y::ys)++[decide (r=[0])]) roots⟩⟩) ?_ ?_|exact kQ|(refine bk ?_ ?_<;>intro _<;>try exact exo)|refine stq ?_|refine cp (fg sd sd) ?_|refine cp (fg hl1 hs) ?_|(refine fW.posN (λ_ _=>?_) (λ_=>?_)<;>(try contradiction))|refine ac.by (id:=7) aB T0 [0,0,2,6,14,0,0,64,192,448,992,2016,4064,8190,16383,32767,65535] (by kernel_rfl) ?_|refine cp hstep ?_|refine cp hend ?_|refine Chk.mk ⟨_,rfl⟩ ?_|exact⟨Or.inr rfl,rfl,rfl⟩|fail)
  exact lq [(9,_),(10,_)] []
end
section
open Go Go.Am Classical
theorem xC10.rdX {p:Prop}(h:p:=by first|exact Rd.same (fR _ _)|exact Rd.fn Rds.nil (Rds.cons (Rd.ptr rfl) (Rds.cons (Rd.same rfl) (Rds.cons (Rd.ptr rfl) (Rds.cons (Rd.ptr rfl) (Rds.cons (Rd.same (fR _ _)) Rds.nil)))))|exact Rd.owns rfl|exact Rd.own (l:=([]:List (List Nat))++[row]) sim rfl sim sim|exact Rd.own (l:=(x::xs)++[row]) sim rfl sim sim|fail):p:=h
theorem xC10.rbX {p:Prop}(h:p:=by first|exact Rb.map (Res.same (dZ _ _))|exact Rb.cells (Rds.eqs (Aw hrl) (ab (λ_=>rfl))) rfl|exact Rb.cells (Rds.cons (pd rfl rfl hrl) Rds.nil) rfl|exact Rb.cells (mu (l:=x::xs) (pd rfl rfl hrl)) rfl|exact Rb.cells (Rds.eqs (a8 om (λi _=>by first|(simp;done)|fail)) (ab (λ_=>rfl))) rfl|fail):p:=h
open xC10
variable [GT]
abbrev nkC (k:Nat):List D:=[cR k]
theorem oA (k:Nat):aF (nkC k)=true:=rfl
theorem Cf (k:Bool):aF (blC k)=true:=rfl
def okS (ns:List Nd) (s:List Nat):Bool:=s.all (λx=>Nat.blt x ns.length&&Nat.blt x 100)&&Nat.ble s.length 100
def u9 (ns:List Nd):Bool:=Nat.ble ns.length 1000&&ns.all (λn=>Nat.ble n.cls.length 1000&&Nat.ble n.to.length 100)
def sM (ns:List Nd) (F e base:Nat) (cur:List Nat):Nat->Nat->List (List Nat)->List Bool->List Nat->Option (List Nat×List (List Nat)×List Bool)
 | 0,_,ss,hits,row=>some (row,ss,hits)
 | k+1,c,ss,hits,row=>
  match stp ns F cur (c:Int) with
  | none=>none
  | some s=>
   if okS ns s then
    if ee s∈b8 ss then sM ns F e base cur k (c+1) ss hits (row++[base+(b8 ss).idxOf (ee s)])
    else
     match stp ns F s (e:Int) with
     | none=>none
     | some r=>if okS ns r/\ss.length<=1000 then sM ns F e base cur k (c+1) (ss++[s]) (hits++[decide (r=[0])]) (row++[base+ss.length]) else none
   else none
def oc (ns:List Nd) (F n e base:Nat):Nat->Nat->List (List Nat)->List (List Nat)->List Bool->Option (List (List Nat)×List Bool)
 | 0,_,_,_,_=>none
 | f+1,i,ss,next,hits=>
  match ss[i]? with
  | none=>some (next,hits)
  | some cur=>
   match sM ns F e base cur n 0 ss hits [] with
   | none=>none
   | some (row,ss',hits')=>oc ns F n e base f (i+1) ss' (next++[row]) hits'
def v7 (b:Bool) (F n e:Nat) (p:Pat) (next:List (List Nat)) (hits:List Bool) (roots:List Nat):Option (List (List Nat)×List Bool×List Nat):=
 match lb b F p 0 [⟨[],[]⟩] with
 | none=>none
 | some (first,ns)=>
  if u9 ns then
   match clo ns F [] [first] [] with
   | none=>none
   | some s0=>
    if okS ns s0 then
     match stp ns F s0 (e:Int) with
     | none=>none
     | some r=>
      if okS ns r then
       match oc ns F n e next.length F 0 [s0] next (hits++[decide (r=[0])]) with
       | none=>none
       | some (next',hits')=>if next'≠[]/\hits'.length=next'.length/\next'.length<=10000 then some (next',hits',roots++[next.length]) else none
      else none
    else none
  else none
theorem ge {ns:List Nd}{s:List Nat}(h:okS ns s=true):s.length<=100/\(∀ i (h:i<s.length),s[i]<100)/\∀ i (h:i<s.length),s[i]<ns.length:=by
 simp only[okS,kC,kL,Nat.blt_eq,Nat.ble_eq] at h;exact⟨h.2,λi hi=>(h.1 _ (kM hi)).2,λi hi=>(h.1 _ (kM hi)).1⟩
theorem lO {ns:List Nd}{c:Int}(h:u9 ns=true):∀ s:List Nat,(gat ns c s).length<=s.length*100
 | []=>by simp[gat]
 | i::l=>by
  have ih:=lO (c:=c) h l;simp only[gat,kG,kO];split
  .rename_i n hn;split
   .have h1:n.to.length<=100:=by
     simp only[u9,kC,kL,Nat.ble_eq] at h;exact(h.2 n (List.mem_of_getElem? hn)).2
    omega
   .simp only[List.length_nil];omega
  .simp only[List.length_nil];omega
theorem lG {ns:List Nd}(h:u9 ns=true):ns.length<=1000/\∀ i (h:i<ns.length),ns[i].cls.length<=1000:=by
 simp only[u9,kC,kL,Nat.ble_eq] at h;exact⟨h.1,λi hi=>(h.2 _ (kM hi)).1⟩
theorem EC {ns:List Nd}{b:Bool}{s r:List Nat}{c:Int}{F:Nat}(hF:F<=100000) (hn:u9 ns=true) (hs:okS ns s=true) (h:stp ns F s c=some r):Pu Tryz.prog 149 [iP ns b,dI s,i64 c] (dI r):=by
 have h1:=ge hs;have h2:=lG hn;have h3:=lO (c:=c) hn s;exact ED hF om h1.2.2 om (λi hi=>Nat.le_trans (h2.2 i hi) om) om h
abbrev nuN (n e base:Nat) (b:Bool) (ss:List (List Nat)) (next:List (List Nat)) (hits:List Bool) (roots:List Nat):List (Nat×Box):=
 [(0,.cells [.map 1] true),(1,.map (pos (b8 ss) base)),(2,.cells [.sl 3 0 ss.length ss.length 1 false] true),(3,.cells (ss.flatMap nsC) false),(4,.cells [.ptr 5 0] true),(5,.cells (mcC n e b (aP 7 1 next) (.sl 6 0 hits.length hits.length 1 false) (aP 8 1 roots)) true),(6,.cells (hits.flatMap blC) false)]
theorem AC1.same {P:Program}{g:FuncId}{ds:List D}{h h0:aA}{d:D}{h':aA}(hp:AC1 P g ds h d h') (hn:h.next=h0.next) (he:∀ j,h.get j=h0.get j):AC1 P g ds h0 d h':=AC1.congr ⟨hn,he⟩ (Heq.refl _) hp
theorem JV {n e base F:Nat}{b:Bool}{ns:List Nd}{ss next:List (List Nat)}{s r:List Nat}{hits:List Bool}{roots:List Nat}(hs0:ss≠[]) (hh0:hits≠[]) (hn:u9 ns=true) (hs:okS ns s=true) (hr:okS ns r=true) (hk:¬ee s∈b8 ss) (hsl:ss.length<=1000) (hbase:base<=10000)
  (hhl:hits.length=base+ss.length) (hF:F<=100000) (hst:stp ns F s (e:Int)=some r) :
  AC1 Tryz.prog 146 [dI s,.ptr 0 0,.iptr [i64 (base:Int)],.ptr 2 0,.ptr 4 0,iP ns b]
   ⟨9,nuN n e base b ss next hits roots⟩ (i64 ((base+ss.length:Nat):Int)) ⟨11,nuR n e base b (ss++[s]) next (hits++[decide (r=[0])]) roots⟩:=by
 have h1:=ge hs;have h2:=lG hn;have h3:=lO (c:=(e:Int)) hn s;have h4:=ge hr;refine AC1.same (E5 (n:=n) (e:=e) (next:=next) (roots:=roots) (b:=b) om h1.2.1 hk om om hhl hF om h1.2.2 (λi hi=>Nat.le_trans (h2.2 i hi) om) om hst om) rfl λj=>?_
 cases ss with
 | nil=>exact absurd rfl hs0
 | cons t ts=>
  cases hits with
  | nil=>exact absurd rfl hh0
  | cons y ys=>
   simp only[aA.get,bS,aY,List.cons_append,List.nil_append,aP];by_cases e3:3=j
   .subst e3;simp
   .simp only[e3,if_false]
theorem JW {n e base F:Nat}{b:Bool}{ns:List Nd}{next:List (List Nat)}{s r:List Nat}{hits:List Bool}{roots:List Nat}(hn:u9 ns=true) (hs:okS ns s=true) (hr:okS ns r=true) (hbase:base<=10000)
  (hhl:hits.length=base) (hF:F<=100000) (hst:stp ns F s (e:Int)=some r) :
  AC1 Tryz.prog 146 [dI s,.ptr 0 0,.iptr [i64 (base:Int)],.ptr 2 0,.ptr 4 0,iP ns b]
   ⟨9,nuB n e base b [] next hits roots⟩ (i64 ((base:Nat):Int)) ⟨11,nuR n e base b [s] next (hits++[decide (r=[0])]) roots⟩:=by
 have h1:=ge hs;have h2:=lG hn;have h3:=lO (c:=(e:Int)) hn s;have h4:=ge hr;exact E5 (n:=n) (e:=e) (next:=next) (roots:=roots) (b:=b) (ss:=[]) om h1.2.1 si si om (by simpa using hhl) hF om h1.2.2 (λi hi=>Nat.le_trans (h2.2 i hi) om) om hst om
section
variable {h:aA}{fz:Nat->Bool}{σ:Nat->Option Nat}
theorem BT {i j:Nat}{ns:List Nd}{b bx bx':Bool}(hi:fz i=true) (hj:fz j=true) (gi:h.get i=some (.cells [.sl j 0 ns.length ns.length 2 false,boo b] bx)) (gj:h.get j=some (.cells (ns.flatMap ndC) bx')):Rd h fz σ (.ptr i 0) (iP ns b):=by
 refine .frzp hi gi (.cons ?_ (.cons (.same rfl) .nil));refine .frz hj gj (by rw[aa (c:=ndC) (sz:=2) (λ_=>rfl)];omega) (.eqs ?_ (aE lH _));rw[List.drop_zero,kE (by rw[aa (c:=ndC) (sz:=2) (λ_=>rfl)];exact kP _)]
end
abbrev maB (n e:Nat) (b:Bool) (next:List (List Nat)) (hits:List Bool) (roots:List Nat):List (Nat×Box):=
 (0,.cells (mcC n e b (aP 1 1 next) (aP 2 1 hits) (aP 3 1 roots)) true)::(bS 1 ntC next++(bS 2 blC hits++bS 3 nkC roots))
abbrev maR (n e:Nat) (b:Bool) (next:List (List Nat)) (hits:List Bool) (roots:List Nat):List (Nat×Box):=
 [(0,.cells (mcC n e b (aP 4 1 next) (aP 5 1 hits) (aP 6 1 roots)) true),(4,.cells (next.flatMap ntC) false),(5,.cells (hits.flatMap blC) false),(6,.cells (roots.flatMap nkC) false)]
abbrev clF (base:Nat) (ns:List Nd) (b:Bool):D:=.fn (.func 146) [] [.ptr 9 0,.iptr [i64 (base:Int)],.ptr 8 0,.ptr 7 0,iP ns b]
abbrev msH (n e:Nat) (b:Bool) (base:Nat) (ss nxt:List (List Nat)) (hits:List Bool) (roots:List Nat):List (Nat×Box):=
 (7,.cells [.ptr 0 0] true)::(8,.cells [.sl 11 0 ss.length ss.length 1 false] true)::(9,.cells [.map 10] true)::(10,.map (pos (b8 ss) base))::(11,.cells (ss.flatMap nsC) false)::(0,.cells (mcC n e b (aP 4 1 nxt) (.sl 5 0 hits.length hits.length 1 false) (aP 6 1 roots)) true)::(5,.cells (hits.flatMap blC) false)::(6,.cells (roots.flatMap nkC) false)::bS 4 ntC nxt
structure MSt where
 f:Nat
 i:Nat
 ss:List (List Nat)
 nxt:List (List Nat)
 hits:List Bool
structure RSt where
 c:Nat
 ss:List (List Nat)
 hits:List Bool
 row:List Nat
theorem JX {n e F base:Nat}{b:Bool}{ns:List Nd}{nx':List (List Nat)}{hi':List Bool}{roots:List Nat}{Q:Exit->St->Prop}(hF:F<=10000) (hn:n<=1000) (hb:base<=10000) (hok:u9 ns=true)
  (hQ:∀ tm ss,Q (.exit 0) ⟨tm,⟨16,msH n e b base ss nx' hi' roots⟩⟩) (a:MSt) (ha:oc ns F n e base a.f a.i a.ss a.nxt a.hits=some (nx',hi')/\a.ss≠[]/\a.ss.length<=1001/\(∀ s∈a.ss,okS ns s=true)/\a.i<=a.ss.length/\a.hits.length=base+a.ss.length/\a.nxt.length=base+a.i) :
  aG Tryz.prog 4 (loopN Tryz.f108 0) Q ⟨tmp 83 [(2,.ptr 7 0),(4,iP ns b),(7,.ptr 8 0),(8,clF base ns b),(10,i64 (a.i:Int))],⟨12,msH n e b base a.ss a.nxt a.hits roots⟩⟩:=by
 refine aG.by aB T0 (λa:MSt=>⟨tmp 83 [(2,.ptr 7 0),(4,iP ns b),(7,.ptr 8 0),(8,clF base ns b),(10,i64 (a.i:Int))],⟨12,msH n e b base a.ss a.nxt a.hits roots⟩⟩)
  (λa=>oc ns F n e base a.f a.i a.ss a.nxt a.hits=some (nx',hi')/\a.ss≠[]/\a.ss.length<=1001/\(∀ s∈a.ss,okS ns s=true)/\a.i<=a.ss.length/\a.hits.length=base+a.ss.length/\a.nxt.length=base+a.i) (λa=>a.f) a ha (Lf.refl _) ?_
 clear ha a;intro⟨f,i,ss,nxt,hits⟩ ⟨h1,hne,hss,hsl,hi,hhl,hnl⟩;dsimp only at h1 hne hss hsl hi hhl hnl ⊢;cases f with
 | zero=>simp[oc] at h1
 | succ f=>
 by_cases hlt:i<ss.length
 .have hcur:ss[i]?=some ss[i]:=List.getElem?_eq_getElem hlt;have hoc:okS ns ss[i]=true:=hsl _ (kM hlt);generalize hgc:ss[i]=cur at hcur hoc;simp only[oc,hcur] at h1;clear hgc;cases hrow:sM ns F e base cur n 0 ss hits [] with
  | none=>simp[hrow] at h1
  | some p=>
  obtain⟨row',ss',hits'⟩:=p;simp only[hrow] at h1;cases nxt with
  | nil=>
   repeat' ((conv=>whnf);first|exact kQ|(refine bk ?_ ?_<;>intro _<;>try exact exo)|refine stq ?_|fail)
   refine aG.by aB T0 (λa:RSt=>⟨tmp 83 [(2,.ptr 7 0),(4,iP ns b),(7,.ptr 8 0),(8,clF base ns b),(10,i64 (i:Int)),(11,.sl 12 0 n n 1 true),(57,i64 n),(58,i64 (a.c:Int))],⟨13,(12,kR n a.row)::msH n e b base a.ss ([]:List (List Nat)) a.hits roots⟩⟩)
    (λa=>sM ns F e base cur (n-a.c) a.c a.ss a.hits a.row=some (row',ss',hits')/\a.c<=n/\a.row.length=a.c/\a.ss≠[]/\a.ss.length<=1001/\(∀ s∈a.ss,okS ns s=true)/\a.ss[i]?=some cur/\a.hits.length=base+a.ss.length) (λa=>n-a.c) ⟨0,ss,hits,[]⟩ ⟨hrow,by dsimp only;omega,rfl,hne,hss,hsl,hcur,hhl⟩ ?_ ?_
   .exact lq [(5,_),(6,_),(7,_),(8,_),(9,_),(10,_),(11,_),(12,_)] []
   clear hrow hss hsl hcur hne hhl;intro⟨c,ss,hits,row⟩ ⟨hrow,hcn,hrl,hne,hss,hsl,hcur,hhl⟩;dsimp only at hrow hcn hrl hne hss hsl hcur hhl ⊢;have hgi:(ss.flatMap nsC)[i]?=some (dI cur):=by rw[aN];simp[hcur]
   have hil:i<ss.length:=(List.getElem?_eq_some_iff.1 hcur).1;by_cases hc:c<n
   .rw[show n-c=(n-(c+1))+1 from om] at hrow;simp only[sM] at hrow;cases hst:stp ns F cur (c:Int) with
    | none=>simp[hst] at hrow
    | some s=>
    simp only[hst] at hrow;have hstep:=EC (b:=b) om hok hoc hst;split at hrow
    .rename_i hos;have h1:=ge hos;by_cases hk:ee s∈b8 ss
     .rw[if_pos hk] at hrow;repeat' ((conv=>whnf);first|exact kQ|(refine bk ?_ ?_<;>intro _<;>try exact exo)|refine stq ?_|refine bT.at i om om ?_|refine Get.one hgi ?_|refine cp hstep ?_|refine Cll.embF (BB (base:=base) (b:=b) (ns:=ns) om h1.2.1 hk) [(0,9),(1,10),(2,8),(4,7)] [] (i64 ((base+(b8 ss).idxOf (ee s):Nat):Int)) [(9,.cells [.map 10] true),(10,.map (pos (b8 ss) base))] [(7,.cells [.ptr 0 0] true),(8,.cells [.sl 11 0 ss.length ss.length 1 false] true),(11,.cells (ss.flatMap nsC) false),(0,.cells (mcC n e b (aP 4 1 ([]:List (List Nat))) (.sl 5 0 hits.length hits.length 1 false) (aP 6 1 roots)) true),(5,.cells (hits.flatMap blC) false),(6,.cells (roots.flatMap nkC) false),(12,kR n row)] rfl cO bxA rdA bxA reF ?_|refine Put.one (by simp;omega) ?_|fail)
      (conv=>whnf)
      refine⟨⟨c+1,ss,hits,row++[base+(b8 ss).idxOf (ee s)]⟩,⟨hrow,by dsimp only;omega,by simp[hrl],hne,hss,hsl,hcur,hhl⟩,by dsimp only;omega,?_⟩;exact lq [(5,_),(6,_),(7,_),(8,_),(9,_),(10,_),(11,_),(12,_)] []
     .rw[if_neg hk] at hrow;cases hst2:stp ns F s (e:Int) with
      | none=>simp[hst2] at hrow
      | some r=>
      simp only[hst2] at hrow;split at hrow
      .rename_i hor;have hh0:hits≠[]:=λh=>by rw[h] at hhl;simp at hhl;omega
       repeat' ((conv=>whnf);first|exact kQ|(refine bk ?_ ?_<;>intro _<;>try exact exo)|refine stq ?_|refine bT.at i om om ?_|refine Get.one hgi ?_|refine cp hstep ?_|refine Cll.embF (JV (n:=n) (e:=e) (next:=([]:List (List Nat))) (roots:=roots) (b:=b) hne hh0 hok hos hor.1 hk hor.2 hb hhl om hst2) [(0,9),(1,10),(2,8),(3,11),(4,7),(5,0),(6,5),(7,4),(8,6)] [] (i64 ((base+ss.length:Nat):Int)) [(9,.cells [.map 10] true),(10,.map (pos (b8 (ss++[s])) base)),(8,.cells [.sl 26 0 (ss++[s]).length (ss++[s]).length 1 false] true),(26,.cells ((ss++[s]).flatMap nsC) false),(7,.cells [.ptr 0 0] true),(0,.cells (mcC n e b (aP 4 1 ([]:List (List Nat))) (.sl 27 0 (hits++[decide (r=[0])]).length (hits++[decide (r=[0])]).length 1 false) (aP 6 1 roots)) true),(27,.cells ((hits++[decide (r=[0])]).flatMap blC) false)] [(6,.cells (roots.flatMap nkC) false),(12,kR n row)] rfl cO bxA rdA bxA reF ?_|refine Put.one (by simp;omega) ?_|fail)
       (conv=>whnf)
       refine⟨⟨c+1,ss++[s],hits++[decide (r=[0])],row++[base+ss.length]⟩,⟨hrow,by dsimp only;omega,by simp[hrl],si,by simp;omega,λx hx=>?_,by dsimp only;rw[List.getElem?_append_left hil];exact hcur,by simp;omega⟩,by dsimp only;omega,?_⟩
       .rcases List.mem_append.1 hx with hx|hx
        .exact hsl x hx
        .simp at hx;subst hx;exact hos
       exact lq [(5,_),(6,_),(7,_),(8,_),(9,_),(10,_),(11,_),(12,_)] []
      .cases hrow
    .cases hrow
   .rw[show n-c=0 from om] at hrow;simp only[sM,kA,kB] at hrow;obtain⟨rfl,rfl,rfl⟩:=hrow;obtain rfl:c=n:=by omega
    repeat' ((conv=>whnf);first|exact kQ|(refine bk ?_ ?_<;>intro _<;>try exact exo)|refine stq ?_|refine ac.by (id:=17) aB T0 [0,0,2,6,14,0,32,126,255,511,1023] (by kernel_rfl) ?_|refine Chk.mk ⟨_,rfl⟩ ?_|fail)
    (conv=>whnf)
    refine⟨⟨f,i+1,ss,([]:List (List Nat))++[row],hits⟩,⟨h1,hne,hss,hsl,by dsimp only;omega,hhl,by simp at hnl ⊢;omega⟩,by dsimp only;omega,?_⟩;exact lq [(4,_),(5,_),(6,_),(7,_),(8,_),(9,_),(10,_),(11,_)] [12]
  | cons x xs=>
   have hx2:(x::xs).length=xs.length+1:=rfl;repeat' ((conv=>whnf);first|exact kQ|(refine bk ?_ ?_<;>intro _<;>try exact exo)|refine stq ?_|fail)
   refine aG.by aB T0 (λa:RSt=>⟨tmp 83 [(2,.ptr 7 0),(4,iP ns b),(7,.ptr 8 0),(8,clF base ns b),(10,i64 (i:Int)),(11,.sl 12 0 n n 1 true),(57,i64 n),(58,i64 (a.c:Int))],⟨13,(12,kR n a.row)::msH n e b base a.ss (x::xs) a.hits roots⟩⟩)
    (λa=>sM ns F e base cur (n-a.c) a.c a.ss a.hits a.row=some (row',ss',hits')/\a.c<=n/\a.row.length=a.c/\a.ss≠[]/\a.ss.length<=1001/\(∀ s∈a.ss,okS ns s=true)/\a.ss[i]?=some cur/\a.hits.length=base+a.ss.length) (λa=>n-a.c) ⟨0,ss,hits,[]⟩ ⟨hrow,by dsimp only;omega,rfl,hne,hss,hsl,hcur,hhl⟩ ?_ ?_
   .exact lq [(4,_),(5,_),(6,_),(7,_),(8,_),(9,_),(10,_),(11,_),(12,_)] []
   clear hrow hss hsl hcur hne hhl;intro⟨c,ss,hits,row⟩ ⟨hrow,hcn,hrl,hne,hss,hsl,hcur,hhl⟩;dsimp only at hrow hcn hrl hne hss hsl hcur hhl ⊢;have hgi:(ss.flatMap nsC)[i]?=some (dI cur):=by rw[aN];simp[hcur]
   have hil:i<ss.length:=(List.getElem?_eq_some_iff.1 hcur).1;by_cases hc:c<n
   .rw[show n-c=(n-(c+1))+1 from om] at hrow;simp only[sM] at hrow;cases hst:stp ns F cur (c:Int) with
    | none=>simp[hst] at hrow
    | some s=>
    simp only[hst] at hrow;have hstep:=EC (b:=b) om hok hoc hst;split at hrow
    .rename_i hos;have h1:=ge hos;by_cases hk:ee s∈b8 ss
     .rw[if_pos hk] at hrow;repeat' ((conv=>whnf);first|exact kQ|(refine bk ?_ ?_<;>intro _<;>try exact exo)|refine stq ?_|refine bT.at i om om ?_|refine Get.one hgi ?_|refine cp hstep ?_|refine Cll.embF (BB (base:=base) (b:=b) (ns:=ns) om h1.2.1 hk) [(0,9),(1,10),(2,8),(4,7)] [] (i64 ((base+(b8 ss).idxOf (ee s):Nat):Int)) [(9,.cells [.map 10] true),(10,.map (pos (b8 ss) base))] [(7,.cells [.ptr 0 0] true),(8,.cells [.sl 11 0 ss.length ss.length 1 false] true),(11,.cells (ss.flatMap nsC) false),(0,.cells (mcC n e b (aP 4 1 (x::xs)) (.sl 5 0 hits.length hits.length 1 false) (aP 6 1 roots)) true),(5,.cells (hits.flatMap blC) false),(6,.cells (roots.flatMap nkC) false),(12,kR n row),(4,.cells ((x::xs).flatMap ntC) false)] rfl cO bxA rdA bxA reF ?_|refine Put.one (by simp;omega) ?_|fail)
      (conv=>whnf)
      refine⟨⟨c+1,ss,hits,row++[base+(b8 ss).idxOf (ee s)]⟩,⟨hrow,by dsimp only;omega,by simp[hrl],hne,hss,hsl,hcur,hhl⟩,by dsimp only;omega,?_⟩;exact lq [(4,_),(5,_),(6,_),(7,_),(8,_),(9,_),(10,_),(11,_),(12,_)] []
     .rw[if_neg hk] at hrow;cases hst2:stp ns F s (e:Int) with
      | none=>simp[hst2] at hrow
      | some r=>
      simp only[hst2] at hrow;split at hrow
      .rename_i hor;have hh0:hits≠[]:=λh=>by rw[h] at hhl;simp at hhl;omega
       repeat' ((conv=>whnf);first|exact kQ|(refine bk ?_ ?_<;>intro _<;>try exact exo)|refine stq ?_|refine bT.at i om om ?_|refine Get.one hgi ?_|refine cp hstep ?_|refine Cll.embF (JV (n:=n) (e:=e) (next:=(x::xs)) (roots:=roots) (b:=b) hne hh0 hok hos hor.1 hk hor.2 hb hhl om hst2) [(0,9),(1,10),(2,8),(3,11),(4,7),(5,0),(6,5),(7,4),(8,6)] [] (i64 ((base+ss.length:Nat):Int)) [(9,.cells [.map 10] true),(10,.map (pos (b8 (ss++[s])) base)),(8,.cells [.sl 26 0 (ss++[s]).length (ss++[s]).length 1 false] true),(26,.cells ((ss++[s]).flatMap nsC) false),(7,.cells [.ptr 0 0] true),(0,.cells (mcC n e b (aP 4 1 (x::xs)) (.sl 27 0 (hits++[decide (r=[0])]).length (hits++[decide (r=[0])]).length 1 false) (aP 6 1 roots)) true),(27,.cells ((hits++[decide (r=[0])]).flatMap blC) false)] [(6,.cells (roots.flatMap nkC) false),(12,kR n row),(4,.cells ((x::xs).flatMap ntC) false)] rfl cO bxA rdA bxA reF ?_|refine Put.one (by simp;omega) ?_|fail)
       (conv=>whnf)
       refine⟨⟨c+1,ss++[s],hits++[decide (r=[0])],row++[base+ss.length]⟩,⟨hrow,by dsimp only;omega,by simp[hrl],si,by simp;omega,λx hx=>?_,by dsimp only;rw[List.getElem?_append_left hil];exact hcur,by simp;omega⟩,by dsimp only;omega,?_⟩
       .rcases List.mem_append.1 hx with hx|hx
        .exact hsl x hx
        .simp at hx;subst hx;exact hos
       exact lq [(4,_),(5,_),(6,_),(7,_),(8,_),(9,_),(10,_),(11,_),(12,_)] []
      .cases hrow
    .cases hrow
   .rw[show n-c=0 from om] at hrow;simp only[sM,kA,kB] at hrow;obtain⟨rfl,rfl,rfl⟩:=hrow;obtain rfl:c=n:=by omega
    repeat' ((conv=>whnf);first|exact kQ|(refine bk ?_ ?_<;>intro _<;>try exact exo)|refine stq ?_|refine ac.by (id:=17) aB T0 [0,0,2,6,14,0,32,126,255,511,1023] (by kernel_rfl) ?_|refine Chk.mk ⟨_,rfl⟩ ?_|fail)
    (conv=>whnf)
    refine⟨⟨f,i+1,ss,(x::xs)++[row],hits⟩,⟨h1,hne,hss,hsl,by dsimp only;omega,hhl,by simp at hnl ⊢;omega⟩,by dsimp only;omega,?_⟩;exact lq [(4,_),(5,_),(6,_),(7,_),(8,_),(9,_),(10,_),(11,_)] [12]
 .have h2:ss[i]?=none:=List.getElem?_eq_none om;simp only[oc,h2,kA,kB] at h1;obtain⟨rfl,rfl⟩:=h1;cases nxt with
  | nil=>
   repeat' ((conv=>whnf);first|exact kQ|(refine bk ?_ ?_<;>intro _<;>try exact exo)|refine stq ?_|exact hQ _ _|fail)
  | cons x xs=>
   repeat' ((conv=>whnf);first|exact kQ|(refine bk ?_ ?_<;>intro _<;>try exact exo)|refine stq ?_|exact hQ _ _|fail)
end
end Go.Proofs.YtlimkdlhldlolaaGreatDoor
