/-
  Contracts of functions over data: nets of patterns.
-/
import Derived.Test.YtpgcjpcenaefpaaGreatDoorC0
import Derived.Test.YtpgcjpcenaefpaaGreatDoorAmF
set_option linter.unusedSectionVars false
namespace Go.Proofs.YtpgcjpcenaefpaaGreatDoor
section
open Go Go.Am Classical
set_option maxRecDepth 100000
theorem xC8.rdX {p:Prop}(h:p:=by first|exact Rd.same (i8 _ _ _)|exact Rd.own (l:=(y::ys)++[i]) sim rfl sim sim|exact Rd.sl' rfl sim sim|exact Rd.int sim|fail):p:=h
theorem xC8.rbX {p:Prop}(h:p:=by first|exact Rb.cells (Rds.eqs (aU (c:=λk=>[cE k]) (by intro _;rfl) (y::ys) _) (aE (by intro _;rfl) _)) rfl|exact Rb.cells (Rds.same (i8 _ _ _)) rfl|exact Rb.cells (uz (Rd.same (aO _)) (mq (l:=[nx]) rfl rfl rfl)) rfl|exact Rb.cells (uz (n:=⟨[],[]⟩) Rd.nil Rd.nil) rfl|exact Rb.cells (uz (n:=⟨[],y::ys⟩) Rd.nil (mq (l:=y::ys) rfl rfl (aN _))) rfl|exact Rb.cells (Gr hget sim (mq (l:=[i,nx]) rfl rfl rfl)) rfl|fail):p:=h
open xC8
variable [GT]
inductive Pat where
 | mk (bP:Int) (cls:List Int) (subs:List Pat)
mutual
def cx:Pat->List D
 | .mk k c s=>[i64 k,aD c,.imm s.length (qc s)]
def qc:List Pat->List D
 | []=>[]
 | p::l=>cx p++qc l
end
theorem qb:∀ l,qc l=l.flatMap cx
 | []=>rfl
 | p::l=>by simp[qc,qb l]
theorem c7 (k:Int) (c:List Int) (s:List Pat):cx (.mk k c s)=[i64 k,aD c,lstS cx s]:=by simp[cx,qb,lstS]
theorem fT:∀ p,(cx p).length=3
 | .mk _ _ _=>by simp[cx]
mutual
theorem ez:∀ p,aF (cx p)=true
 | .mk k c s=>by
  simp only[cx,aF,aO,Bool.and_true,Bool.true_and];exact(show(true&&aI (.imm s.length (qc s)))=true from by rw[Bool.true_and];exact oX s)
theorem oX:∀ l,aF (qc l)=true
 | []=>rfl
 | p::l=>by rw[qc,dU,ez p,oX l];rfl
end
theorem qj (l:List Pat):aI (lstS cx l)=true:=e8 ez l
theorem kj (n:Nd):aF (ndC n)=true:=by simp[aF,aO,bm]
def GY (ns:List Nd) (n:Nd):Option (Nat×List Nd):=if ns.length<=10000 then some (ns.length,ns++[n]) else none
def Cm (add:Pat->Nat->List Nd->Option (Nat×List Nd)):List Pat->Nat->List Nat->List Nd->Option (List Nat×List Nd)
 | [],_,to,ns=>some (to,ns)
 | p::l,nx,to,ns=>
  match add p nx ns with
  | some (i,ns')=>if to.length<=10000 then Cm add l nx (to++[i]) ns' else none
  | none=>none
def xf (add:Pat->Nat->List Nd->Option (Nat×List Nd)):List Pat->Nat->List Nd->Option (Nat×List Nd)
 | [],nx,ns=>some (nx,ns)
 | p::l,nx,ns=>
  match add p nx ns with
  | some (i,ns')=>xf add l i ns'
  | none=>none
def lI (b:Bool):Nat->Pat->Nat->List Nd->Option (Nat×List Nd)
 | 0,_,_,_=>none
 | f+1,.mk k c s,nx,ns=>
  if k=1 then GY ns ⟨c,[nx]⟩
  else if k=3 then
   match Cm (lI b f) s nx [] ns with
   | some (to,ns')=>GY ns' ⟨[],to⟩
   | none=>none
  else if k=4 then
   match s with
   | []=>none
   | q::_=>
    if ns.length<=10000 then
     match lI b f q ns.length (ns++[⟨[],[]⟩]) with
     | some (i,ns')=>(match ns'[ns.length]? with|some n=>some (ns.length,ns'.set ns.length ⟨n.cls,[i,nx]⟩)|none=>none)
     | none=>none
    else none
  else if s.length<=10000 then xf (lI b f) (if b then s else s.reverse) nx ns else none
abbrev neB (ns:List Nd) (b:Bool):List (Nat×Box):=[(0,.cells [.sl 1 0 ns.length ns.length 2 false,boo b] true),(1,.cells (ns.flatMap ndC) false)]
abbrev neR (ns:List Nd) (b:Bool):List (Nat×Box):=[(0,.cells [.sl 2 0 ns.length ns.length 2 false,boo b] true),(2,.cells (ns.flatMap ndC) false)]
section
variable {h:aA}{fz:Nat->Bool}{σ:Nat->Option Nat}
theorem uz {l:List Nd}{n:Nd}{d d':D}(hd:Rd h fz σ d (aD n.cls)) (hd':Rd h fz σ d' (c6 n.to)):Rds h fz σ (((l.flatMap ndC).drop 0).take (l.length*2)++[d,d']) ((l++[n]).flatMap ndC):=by
 rw[List.flatMap_append];refine Rds.app (.eqs ?_ (aE kj _)) (.cons hd (.cons hd' .nil));rw[List.drop_zero,kE (by rw[aZ (sz:=2) (λ_=>rfl)];exact kP _)]
theorem mq {id:Nat}{l:List Nat}{ex bx:Bool}{cs:List D}(hf:fz id=true) (hg:h.get id=some (.cells cs bx)) (e:cs=l.map cE):Rd h fz σ (.sl id 0 l.length l.length 1 ex) (c6 l):=by
 subst e;refine .frz hf hg si (.eqs ?_ (aS (λ_=>rfl) _));rw[List.drop_zero,kE si]
end
theorem wh:∀ {l:List Nd}{k:Nat}{n:Nd}(to:List Nat),l[k]?=some n->(l.flatMap ndC).set (k*2+1) (c6 to)=(l.set k ⟨n.cls,to⟩).flatMap ndC
 | [],_,_,_,h=>by simp at h
 | m::l,0,n,to,h=>by simp at h;subst h;rfl
 | m::l,k+1,n,to,h=>by
  have ih:=wh (l:=l) (k:=k) (n:=n) to (by simpa using h);rw[show(k+1)*2+1=(k*2+1)+1+1 from by omega];simp only[List.flatMap_cons,List.set_cons_succ,List.cons_append,List.nil_append];rw[ih]
theorem Gr {h:aA}{fz:Nat->Bool}{σ:Nat->Option Nat}{l:List Nd}{k off:Nat}{n:Nd}{to:List Nat}{d:D}(hk:l[k]?=some n) (ho:off=k*2+1) (hd:Rd h fz σ d (c6 to)):Rds h fz σ ((l.flatMap ndC).set off d) ((l.set k ⟨n.cls,to⟩).flatMap ndC):=by
 subst ho;exact Rds.tr rfl (wh to hk) (Rds.at hd _ (aE kj _))
theorem Idx.atSE {α:Type}{c:α->List D}{sz:Nat}(hc:∀ x,(c x).length=sz){l:List α}{m:Int}(k:Nat){ds:List D}{K:D->Prop}(e:m=(k:Int)) (h:k<l.length) (ed:c l[k]=ds) (go:K (.iptr ds)):Idx l.length (l.flatMap c) sz m K:=Idx.atS hc k e h (by rw[ed];exact go)
theorem i8 (k:Int) (c:List Int) (s:List Pat):aI (.agg [i64 k,aD c,lstS cx s])=true:=by
 have:=ez (.mk k c s)
 rw[c7] at this;exact this
set_option maxHeartbeats 4000000 in
theorem xu {b:Bool}:∀ (F:Nat) (p:Pat) (nx:Nat) (ns:List Nd) (r:Nat) (ns':List Nd),lI b F p nx ns=some (r,ns') ->
  AC1 Tryz.prog 145 [.ptr 0 0,.agg (cx p),i64 (nx:Int)] ⟨2,neB ns b⟩ (i64 (r:Int)) ⟨3,neR ns' b⟩
 | 0,_,_,_,_,_,h=>by simp[lI] at h
 | F+1,.mk k c s,nx,ns,r,ns',h=>by
  rw[c7];refine AC1.of_vl aB T0 Tryz.func145 rfl rfl ?_;simp only[lI] at h;by_cases h1:k=1
  ·subst h1;simp only[if_true,GY] at h;split at h
   ·rename_i hl;simp only[kA,kB] at h;obtain⟨rfl,rfl⟩:=h;repeat' ((conv=>whnf);first|refine cF.weak (nb:=2) (x:=Code.ret) aB T0 (s0:=⟨tmp 95 [(6,i64 (ns.length:Int))],⟨3,neR (ns++[⟨c,[nx]⟩]) b⟩⟩) ?_ ?_|exact kQ|(refine bk ?_ ?_<;>intro _<;>try(exfalso;omega))|refine stq ?_|(apply Cll.inl aB T0 Tryz.func183 rfl rfl ?_;rotate_left)|refine ac.by (id:=1) aB T0 [0,0,2,6,14,0,32,126,255,511,1023] (by kernel_rfl) ?_|exact⟨Or.inr rfl,rfl,rfl⟩|fail)
    ·exact lq3 [(2,_)] [12]
   ·cases h
  rw[if_neg h1] at h;by_cases h3:k=3
  ·subst h3;simp only[if_true] at h;cases halt:Cm (lI b F) s nx [] ns with
   | none=>simp[halt] at h
   | some q=>
   obtain⟨to',ns1⟩:=q;simp only[halt,GY] at h;split at h
   ·rename_i hl;simp only[kA,kB] at h;obtain⟨rfl,rfl⟩:=h;repeat' ((conv=>whnf);first|exact kQ|(refine bk ?_ ?_<;>intro _<;>try(exfalso;omega))|refine stq ?_|fail)
    refine aH.by3 aB T0 (λ(k:Nat) (to:List Nat) (ns:List Nd)=>⟨tmp 95 [(0,.ptr 0 0),(2,i64 (nx:Int)),(7,aV 4 1 to),(27,lstS cx s),(28,i64 s.length),(29,i64 (k:Int))],⟨5,cK 4 (λk=>[cE k]) to++[(0,.cells [.sl 3 0 ns.length ns.length 2 false,boo b] true),(3,.cells (ns.flatMap ndC) false)]⟩⟩)
     (λk to ns=>Cm (lI b F) (s.drop k) nx to ns=some (to',ns1)∧k<=s.length∧to.length<=10001∧to.length=k) (λk _ _=>s.length-k) 0 [] ns ⟨halt,by omega,by simp,rfl⟩ ?_ ?_
    ·exact lq3 [(3,_)] []
    clear halt;intro k to ns ⟨halt,hk,hto,htk⟩;by_cases hk2:k<s.length
    ·rw[kK hk2] at halt;simp only[Cm] at halt;cases hadd:lI b F s[k] nx ns with
     | none=>simp[hadd] at halt
     | some q=>
     obtain⟨i,ns2⟩:=q;simp only[hadd] at halt;split at halt
     ·rename_i hto2;have ih:=xu F s[k] nx ns i ns2 hadd;cases hq:s[k] with
      | mk k' c' s'=>
      rw[hq,c7] at ih;have hpc:cx s[k]=[i64 k',aD c',lstS cx s']:=by rw[hq,c7]
      cases to with
      | nil=>
       repeat' ((conv=>whnf);first|refine Idx.atSE fT k rfl hk2 hpc ?_|exact kQ|(refine bk ?_ ?_<;>intro _<;>try(exfalso;omega))|refine stq ?_|refine Cll.emb ih [(0,0),(1,3)] [] (i64 (i:Int)) [(0,.cells [.sl 15 0 ns2.length ns2.length 2 false,boo b] true),(15,.cells (ns2.flatMap ndC) false)] [] rfl cm bxA rdA bxA reA ?_|fail)
       all_goals(conv=>whnf)
       refine⟨k+1,[i],ns2,⟨halt,by omega,by simp,by simp at htk ⊢;omega⟩,by omega,?_⟩;exact lq [(3,_),(4,_)] []
      | cons y ys=>
       have hy2:(y::ys).length=ys.length+1:=rfl;repeat' ((conv=>whnf);first|refine Idx.atSE fT k rfl hk2 hpc ?_|exact kQ|(refine bk ?_ ?_<;>intro _<;>try(exfalso;omega))|refine stq ?_|refine Cll.emb ih [(0,0),(1,3)] [] (i64 (i:Int)) [(0,.cells [.sl 15 0 ns2.length ns2.length 2 false,boo b] true),(15,.cells (ns2.flatMap ndC) false)] [(4,.cells ((y::ys).flatMap λk=>[cE k]) false)] rfl cm bxA rdA bxA reA ?_|fail)
       all_goals(conv=>whnf)
       refine⟨k+1,(y::ys)++[i],ns2,⟨halt,by omega,by simp at hto2 ⊢;omega,by simp at htk ⊢;omega⟩,by omega,?_⟩;exact lq [(3,_),(4,_)] []
     ·cases halt
    ·rw[List.drop_eq_nil_of_le om] at halt;simp only[Cm,kA,kB] at halt;obtain⟨rfl,rfl⟩:=halt;cases to with
     | nil=>
      repeat' ((conv=>whnf);first|refine cF.weak (nb:=2) (x:=Code.ret) aB T0 (s0:=⟨tmp 95 [(6,i64 (ns.length:Int))],⟨3,neR (ns++[⟨[],[]⟩]) b⟩⟩) ?_ ?_|exact kQ|(refine bk ?_ ?_<;>intro _<;>try(exfalso;omega))|refine stq ?_|(apply Cll.inl aB T0 Tryz.func183 rfl rfl ?_;rotate_left)|refine ac.by (id:=1) aB T0 [0,0,2,6,14,0,32,126,255,511,1023] (by kernel_rfl) ?_|exact⟨Or.inr rfl,rfl,rfl⟩|fail)
      exact lq3 [(2,_)] []
     | cons y ys=>
      repeat' ((conv=>whnf);first|refine cF.weak (nb:=2) (x:=Code.ret) aB T0 (s0:=⟨tmp 95 [(6,i64 (ns.length:Int))],⟨3,neR (ns++[⟨[],y::ys⟩]) b⟩⟩) ?_ ?_|exact kQ|(refine bk ?_ ?_<;>intro _<;>try(exfalso;omega))|refine stq ?_|(apply Cll.inl aB T0 Tryz.func183 rfl rfl ?_;rotate_left)|refine ac.by (id:=1) aB T0 [0,0,2,6,14,0,32,126,255,511,1023] (by kernel_rfl) ?_|exact⟨Or.inr rfl,rfl,rfl⟩|fail)
      exact lq3 [(2,_)] [4]
   ·cases h
  rw[if_neg h3] at h;by_cases h4:k=4
  ·subst h4;simp only[if_true] at h;cases s with
   | nil=>cases h
   | cons q qs=>
   simp only at h;split at h
   ·rename_i hl;cases hadd:lI b F q ns.length (ns++[⟨[],[]⟩]) with
    | none=>simp[hadd] at h
    | some z=>
    obtain⟨i,ns1⟩:=z;simp only[hadd] at h;cases hget:ns1[ns.length]? with
    | none=>simp[hget] at h
    | some n=>
    simp only[hget,kA,kB] at h;obtain⟨rfl,rfl⟩:=h;obtain⟨hlt,hgt⟩:=List.getElem?_eq_some_iff.1 hget;have hfl:(ns1.flatMap ndC).length=ns1.length*2:=aZ (c:=ndC) (sz:=2) (λ_=>rfl) _;have ih:=xu F q ns.length (ns++[⟨[],[]⟩]) i ns1 hadd;cases q with
    | mk k' c' s'=>
    rw[c7] at ih;repeat' ((conv=>whnf);first|refine Idx.atSE (l:=Pat.mk k' c' s' :: qs) fT 0 rfl si (c7 k' c' s') ?_|refine cF.weak (nb:=2) (x:=Code.ret) aB T0 (s0:=⟨tmp 95 [(6,i64 (ns.length:Int))],⟨3,neR (ns1.set ns.length ⟨n.cls,[i,nx]⟩) b⟩⟩) ?_ ?_|exact kQ|(refine bk ?_ ?_<;>intro _<;>try(exfalso;omega))|refine stq ?_|(apply Cll.inl aB T0 Tryz.func183 rfl rfl ?_;rotate_left)|refine ac.by (id:=1) aB T0 [0,0,2,6,14,0,32,126,255,511,1023] (by kernel_rfl) ?_|exact⟨Or.inr rfl,rfl,rfl⟩|refine Cll.emb ih [(0,0),(1,24)] [] (i64 (i:Int)) [(0,.cells [.sl 43 0 ns1.length ns1.length 2 false,boo b] true),(43,.cells (ns1.flatMap ndC) false)] [] rfl cm bxA rdA bxA reA ?_|refine bp.at ns.length om hlt ?_|refine Put.at (by rw[hfl];simp;omega) ?_|fail)
    exact lq3 [(2,_)] [52]
   ·cases h
  rw[if_neg h4] at h;split at h
  ·rename_i hsl;cases b with
   | true=>
    repeat' ((conv=>whnf);first|exact kQ|(refine bk ?_ ?_<;>intro _<;>try(exfalso;omega))|refine stq ?_|fail)
    refine aH.by3 aB T0 (λ(j:Nat) (nx:Nat) (ns:List Nd)=>⟨tmp 95 [(0,.ptr 0 0),(2,i64 (nx:Int)),(4,.ptr 4 0),(70,i64 s.length),(71,i64 (j:Int))],⟨5,[(4,.cells [i64 k,aD c,lstS cx s] true),(0,.cells [.sl 3 0 ns.length ns.length 2 false,boo true] true),(3,.cells (ns.flatMap ndC) false)]⟩⟩)
     (λj nx ns=>xf (lI true F) ((s).drop j) nx ns=some (r,ns')∧j<=s.length) (λj _ _=>s.length-j) 0 nx ns ⟨h,by omega⟩ ?_ ?_
    ·exact lq3 [(3,_),(4,_)] []
    clear h;intro j nx ns ⟨hcat,hj⟩;by_cases hj2:j<s.length
    ·rw[kK (by first|omega|(simp;omega))] at hcat;simp only[xf] at hcat;have hix:j<s.length:=by omega
     have hL:(s)[j]'(by first|omega|(simp;omega))=s[j]:=rfl;rw[hL] at hcat;cases hadd:lI true F s[j] nx ns with
     | none=>simp[hadd] at hcat
     | some q=>
     obtain⟨i,ns2⟩:=q;simp only[hadd] at hcat;have ih:=xu F s[j] nx ns i ns2 hadd;cases hq:s[j] with
     | mk k' c' s'=>
     rw[hq,c7] at ih;have hpc:cx s[j]=[i64 k',aD c',lstS cx s']:=by rw[hq,c7]
     repeat' ((conv=>whnf);first|refine Idx.atSE fT (j) om hix hpc ?_|exact kQ|(refine bk ?_ ?_<;>intro _<;>try(exfalso;omega))|refine stq ?_|refine Cll.emb ih [(0,0),(1,3)] [] (i64 (i:Int)) [(0,.cells [.sl 21 0 ns2.length ns2.length 2 false,boo true] true),(21,.cells (ns2.flatMap ndC) false)] [(4,.cells [i64 k,aD c,lstS cx s] true)] rfl cm bxA rdA bxA reA ?_|fail)
     all_goals(conv=>whnf)
     refine⟨j+1,i,ns2,⟨hcat,by omega⟩,by omega,?_⟩;exact lq [(3,_),(4,_)] []
    ·rw[List.drop_eq_nil_of_le (by first|omega|(simp;omega))] at hcat;simp only[xf,kA,kB] at hcat;obtain⟨rfl,rfl⟩:=hcat;repeat' ((conv=>whnf);first|refine cF.weak (nb:=2) (x:=Code.ret) aB T0 (s0:=⟨tmp 95 [(6,i64 (nx:Int))],⟨3,neR ns true⟩⟩) ?_ ?_|exact kQ|(refine bk ?_ ?_<;>intro _<;>try(exfalso;omega))|refine stq ?_|exact⟨Or.inr rfl,rfl,rfl⟩|fail)
     exact lq3 [(2,_)] []
   | false=>
    rw[if_neg si] at h;repeat' ((conv=>whnf);first|exact kQ|(refine bk ?_ ?_<;>intro _<;>try(exfalso;omega))|refine stq ?_|fail)
    refine aH.by3 aB T0 (λ(j:Nat) (nx:Nat) (ns:List Nd)=>⟨tmp 95 [(0,.ptr 0 0),(2,i64 (nx:Int)),(4,.ptr 4 0),(70,i64 s.length),(71,i64 (j:Int))],⟨5,[(4,.cells [i64 k,aD c,lstS cx s] true),(0,.cells [.sl 3 0 ns.length ns.length 2 false,boo false] true),(3,.cells (ns.flatMap ndC) false)]⟩⟩)
     (λj nx ns=>xf (lI false F) ((s.reverse).drop j) nx ns=some (r,ns')∧j<=s.length) (λj _ _=>s.length-j) 0 nx ns ⟨h,by omega⟩ ?_ ?_
    ·exact lq3 [(3,_),(4,_)] []
    clear h;intro j nx ns ⟨hcat,hj⟩;by_cases hj2:j<s.length
    ·rw[kK (by first|omega|(simp;omega))] at hcat;simp only[xf] at hcat;have hix:(s.length-1-j)<s.length:=by omega
     have hL:(s.reverse)[j]'(by first|omega|(simp;omega))=s[(s.length-1-j)]:=by simp
     rw[hL] at hcat;cases hadd:lI false F s[(s.length-1-j)] nx ns with
     | none=>simp[hadd] at hcat
     | some q=>
     obtain⟨i,ns2⟩:=q;simp only[hadd] at hcat;have ih:=xu F s[(s.length-1-j)] nx ns i ns2 hadd;cases hq:s[(s.length-1-j)] with
     | mk k' c' s'=>
     rw[hq,c7] at ih;have hpc:cx s[(s.length-1-j)]=[i64 k',aD c',lstS cx s']:=by rw[hq,c7]
     repeat' ((conv=>whnf);first|refine Idx.atSE fT ((s.length-1-j)) om hix hpc ?_|exact kQ|(refine bk ?_ ?_<;>intro _<;>try(exfalso;omega))|refine stq ?_|refine Cll.emb ih [(0,0),(1,3)] [] (i64 (i:Int)) [(0,.cells [.sl 28 0 ns2.length ns2.length 2 false,boo false] true),(28,.cells (ns2.flatMap ndC) false)] [(4,.cells [i64 k,aD c,lstS cx s] true)] rfl cm bxA rdA bxA reA ?_|fail)
     all_goals(conv=>whnf)
     refine⟨j+1,i,ns2,⟨hcat,by omega⟩,by omega,?_⟩;exact lq [(3,_),(4,_)] []
    ·rw[List.drop_eq_nil_of_le (by first|omega|(simp;omega))] at hcat;simp only[xf,kA,kB] at hcat;obtain⟨rfl,rfl⟩:=hcat;repeat' ((conv=>whnf);first|refine cF.weak (nb:=2) (x:=Code.ret) aB T0 (s0:=⟨tmp 95 [(6,i64 (nx:Int))],⟨3,neR ns false⟩⟩) ?_ ?_|exact kQ|(refine bk ?_ ?_<;>intro _<;>try(exfalso;omega))|refine stq ?_|exact⟨Or.inr rfl,rfl,rfl⟩|fail)
     exact lq3 [(2,_)] []
  ·cases h
end
section
open Go Go.Am Classical
set_option maxRecDepth 100000
theorem xC9.rdX {p:Prop}(h:p:=by first|exact Rd.owns rfl|exact Rd.int sim|exact Rd.sl' rfl sim sim|fail):p:=h
theorem xC9.rbX {p:Prop}(h:p:=by first|exact Rb.map (Res.eqs ug (dN _ _))|exact Rb.cells (Rds.same (wd (bm _))) rfl|exact Rb.cells (Rds.eqs (aU (c:=blC) (by intro _;rfl) (y::ys) _) (aE (by intro _;rfl) _)) rfl|exact Rb.cells (Rds.eqs (aU (c:=nsC) (by intro _;rfl) (t::ts) _) (aE s8 _)) rfl|fail):p:=h
open xC9
variable [GT]
theorem fE.posN {h:aA}{k:Str}{l:List Str}{n:Nat}{K:Option (Nat×D)->Prop}(yes:∀ i,k∈l->K (some (i,i64 ((n+l.idxOf k:Nat):Int)))) (no:¬k∈l->K none):fE h (.str k) (pos l n) K:=by
 obtain⟨r,h1,h2⟩:=nz (h:=h) (k:=k) (l:=l) (n:=n) (i:=0);rcases h2 with⟨h2,rfl⟩|⟨h2,rfl⟩
 ·exact⟨_,h1,by simpa using yes _ h2⟩
 ·exact⟨_,h1,no h2⟩
section
variable {h:aA}{fz:Nat->Bool}{σ:Nat->Option Nat}
theorem Rd.owns {α:Type}{id id' es:Nat}{l:List α}(hs:σ id'=some id):Rd h fz σ (aV id es l) (aV id' es l):=by
 cases l with
 | nil=>exact .same rfl
 | cons x l=>exact .sl hs
end
abbrev bh (ss:List (List Nat)):List Str:=ss.map eG
abbrev nsC (s:List Nat):List D:=[c6 s]
abbrev blC (b:Bool):List D:=[boo b]
theorem s8 (s:List Nat):aF (nsC s)=true:=by simp[aF,bm]
theorem wd {d:D}(h:aI d=true):aF [d]=true:=by simp[aF,h]
abbrev mcC (n e:Nat) (b:Bool) (dn dh dr:D):List D:=[i64 n,i64 e,boo b,dn,dh,dr]
abbrev nuB (n e base:Nat) (b:Bool) (ss:List (List Nat)) (next:List (List Nat)) (hits:List Bool) (roots:List Nat):List (Nat×Box):=
 (0,.cells [.map 1] true)::(1,.map (pos (bh ss) base))::(2,.cells [aV 3 1 ss] true)::(4,.cells [.ptr 5 0] true)::(5,.cells (mcC n e b (aV 7 1 next) (aV 6 1 hits) (aV 8 1 roots)) true)::(cK 3 nsC ss++cK 6 blC hits)
theorem AN {base:Nat}{b:Bool}{ns:List Nd}{ss:List (List Nat)}{s:List Nat}(hl:s.length<=1000000) (hs:∀ i (h:i<s.length),s[i]<100) (hk:eG s∈bh ss) :
  AC1 Tryz.prog 141 [c6 s,.ptr 0 0,.iptr [i64 (base:Int)],.ptr 2 0,.ptr 4 0,iC ns b]
   ⟨9,[(0,.cells [.map 1] true),(1,.map (pos (bh ss) base))]⟩ (i64 ((base+(bh ss).idxOf (eG s):Nat):Int)) ⟨25,[(0,.cells [.map 1] true),(1,.map (pos (bh ss) base))]⟩:=by
 refine AC1.of_vl aB T0 Tryz.func141 rfl rfl ?_;repeat' ((conv=>whnf);first|exact kQ|(refine bk ?_ ?_<;>intro _<;>try(exfalso;omega))|refine stq ?_|refine cp (fS sd sd) ?_|refine cp (fS hl hs) ?_|(refine fE.posN (λ_ _=>?_) (λ_=>?_)<;>(try contradiction))|fail)
 all_goals(conv=>whnf)
 exact⟨Or.inr rfl,rfl,rfl⟩
abbrev nuR (n e base:Nat) (b:Bool) (ss:List (List Nat)) (next:List (List Nat)) (hits:List Bool) (roots:List Nat):List (Nat×Box):=
 [(0,.cells [.map 1] true),(1,.map (pos (bh ss) base)),(2,.cells [.sl 9 0 ss.length ss.length 1 false] true),(9,.cells (ss.flatMap nsC) false),(4,.cells [.ptr 5 0] true),(5,.cells (mcC n e b (aV 7 1 next) (.sl 10 0 hits.length hits.length 1 false) (aV 8 1 roots)) true),(10,.cells (hits.flatMap blC) false)]
theorem ug {ss:List (List Nat)}{s:List Nat}{base:Nat}:pos (bh ss) base++[(D.str (eG s),i64 ((base:Int)+(ss.length:Int)))]=pos (bh (ss++[s])) base:=by
 simp only[bh,List.map_append,lr];simp[pos]
set_option maxHeartbeats 4000000 in
theorem Dz {n e base F:Nat}{b:Bool}{ns:List Nd}{ss next:List (List Nat)}{s r:List Nat}{hits:List Bool}{roots:List Nat}(hl:s.length<=100000) (hs:∀ i (h:i<s.length),s[i]<100) (hk:¬eG s∈bh ss) (hsl:ss.length<=100000) (hbase:base<=100000)
  (hhl:hits.length=base+ss.length) (hF:F<=100000) (hnl:ns.length<=100000) (hset:∀ i (h:i<s.length),s[i]<ns.length) (hcl:∀ i (h:i<ns.length),ns[i].cls.length<=1000000) (hg:(gat ns (e:Int) s).length<=100000) (hst:stp ns F s (e:Int)=some r) (hrl:r.length<=1000000) :
  AC1 Tryz.prog 141 [c6 s,.ptr 0 0,.iptr [i64 (base:Int)],.ptr 2 0,.ptr 4 0,iC ns b]
   ⟨9,nuB n e base b ss next hits roots⟩ (i64 ((base+ss.length:Nat):Int)) ⟨11,nuR n e base b (ss++[s]) next (hits++[decide (r=[0])]) roots⟩:=by
 have hstep:=DJ (b:=b) hF hnl hset om hcl hg hst;have hend:=Ak (l:=r) hrl;have hl1:s.length<=1000000:=by omega
 refine AC1.of_vl aB T0 Tryz.func141 rfl rfl ?_;cases ss with
 | nil=>
  cases hits with
  | nil=>
   repeat' ((conv=>whnf);first|refine cF.weak (nb:=9) (x:=Code.ret) aB T0 (s0:=⟨tmp 49 [(7,i64 ((base+(([]:List (List Nat))).length:Nat):Int))],⟨11,nuR n e base b (([]:List (List Nat))++[s]) next ([]++[decide (r=[0])]) roots⟩⟩) ?_ ?_|exact kQ|(refine bk ?_ ?_<;>intro _<;>try(exfalso;omega))|refine stq ?_|refine cp (fS sd sd) ?_|refine cp (fS hl1 hs) ?_|(refine fE.posN (λ_ _=>?_) (λ_=>?_)<;>(try contradiction))|refine ac.by (id:=7) aB T0 [0,0,2,6,14,0,0,64,192,448,992,2016,4064,8190,16383,32767,65535] (by kernel_rfl) ?_|refine cp hstep ?_|refine cp hend ?_|refine Chk.mk ⟨_,rfl⟩ ?_|exact⟨Or.inr rfl,rfl,rfl⟩|fail)
   exact lq [(9,_),(10,_)] []
  | cons y ys=>
   have hy2:(y::ys).length=ys.length+1:=rfl;repeat' ((conv=>whnf);first|refine cF.weak (nb:=9) (x:=Code.ret) aB T0 (s0:=⟨tmp 49 [(7,i64 ((base+(([]:List (List Nat))).length:Nat):Int))],⟨11,nuR n e base b (([]:List (List Nat))++[s]) next ((y::ys)++[decide (r=[0])]) roots⟩⟩) ?_ ?_|exact kQ|(refine bk ?_ ?_<;>intro _<;>try(exfalso;omega))|refine stq ?_|refine cp (fS sd sd) ?_|refine cp (fS hl1 hs) ?_|(refine fE.posN (λ_ _=>?_) (λ_=>?_)<;>(try contradiction))|refine ac.by (id:=7) aB T0 [0,0,2,6,14,0,0,64,192,448,992,2016,4064,8190,16383,32767,65535] (by kernel_rfl) ?_|refine cp hstep ?_|refine cp hend ?_|refine Chk.mk ⟨_,rfl⟩ ?_|exact⟨Or.inr rfl,rfl,rfl⟩|fail)
   exact lq [(9,_),(10,_)] []
 | cons t ts=>
  obtain⟨y,ys,rfl⟩:=kI (show 0<hits.length by simp at hhl;omega);have hy2:(y::ys).length=ys.length+1:=rfl;have ht2:(t::ts).length=ts.length+1:=rfl;repeat' ((conv=>whnf);first|refine cF.weak (nb:=9) (x:=Code.ret) aB T0 (s0:=⟨tmp 49 [(7,i64 ((base+((t::ts)).length:Nat):Int))],⟨11,nuR n e base b ((t::ts)++[s]) next ((y::ys)++[decide (r=[0])]) roots⟩⟩) ?_ ?_|exact kQ|(refine bk ?_ ?_<;>intro _<;>try(exfalso;omega))|refine stq ?_|refine cp (fS sd sd) ?_|refine cp (fS hl1 hs) ?_|(refine fE.posN (λ_ _=>?_) (λ_=>?_)<;>(try contradiction))|refine ac.by (id:=7) aB T0 [0,0,2,6,14,0,0,64,192,448,992,2016,4064,8190,16383,32767,65535] (by kernel_rfl) ?_|refine cp hstep ?_|refine cp hend ?_|refine Chk.mk ⟨_,rfl⟩ ?_|exact⟨Or.inr rfl,rfl,rfl⟩|fail)
  exact lq [(9,_),(10,_)] []
end
end Go.Proofs.YtpgcjpcenaefpaaGreatDoor
