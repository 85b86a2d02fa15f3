/-
  Contracts of functions over data: nets of patterns.
-/
import Derived.Test.YtjpgpihbhicinaaGreatDoorC5
import Derived.Test.YtjpgpihbhicinaaGreatDoorAmF
set_option linter.unusedSectionVars false
namespace Go.Proofs.YtjpgpihbhicinaaGreatDoor
section
open Go Go.Am Classical
set_option maxRecDepth 100000
variable [GT]
inductive Pat where
 | mk (bU:Int) (cls:List Int) (subs:List Pat)
mutual
def cw:Pat→List D
 | .mk k c s=>[i64 k,aQ c,.imm s.length (pW s)]
def pW:List Pat→List D
 | []=>[]
 | p::l=>cw p++pW l
end
theorem pV:∀ l,pW l=l.flatMap cw
 | []=>rfl
 | p::l=>by simp[pW,pV l]
theorem dH (k:Int) (c:List Int) (s:List Pat):cw (.mk k c s)=[i64 k,aQ c,lstS cw s]:=by simp[cw,pV,lstS]
theorem fD:∀ p,(cw p).length=3
 | .mk _ _ _=>by simp[cw]
mutual
theorem cE:∀ p,aC (cw p)=true
 | .mk k c s=>by
  simp only[cw,aC,aD,Bool.and_true,Bool.true_and];exact(show(true&&aH (.imm s.length (pW s)))=true from by rw[Bool.true_and];exact np s)
theorem np:∀ l,aC (pW l)=true
 | []=>rfl
 | p::l=>by rw[pW,dP,cE p,np l];rfl
end
theorem wF (l:List Pat):aH (lstS cw l)=true:=eW cE l
theorem kS (n:Nd):aC (ndC n)=true:=by simp[aC,aD,bF]
def Cx (ns:List Nd) (n:Nd):Option (Nat×List Nd):=if ns.length≤10000 then some (ns.length,ns++[n]) else none
def zY (add:Pat→Nat→List Nd→Option (Nat×List Nd)):List Pat→Nat→List Nat→List Nd→Option (List Nat×List Nd)
 | [],_,to,ns=>some (to,ns)
 | p::l,nx,to,ns=>
  match add p nx ns with
  | some (i,ns')=>if to.length≤10000 then zY add l nx (to++[i]) ns' else none
  | none=>none
def vB (add:Pat→Nat→List Nd→Option (Nat×List Nd)):List Pat→Nat→List Nd→Option (Nat×List Nd)
 | [],nx,ns=>some (nx,ns)
 | p::l,nx,ns=>
  match add p nx ns with
  | some (i,ns')=>vB add l i ns'
  | none=>none
def kj (b:Bool):Nat→Pat→Nat→List Nd→Option (Nat×List Nd)
 | 0,_,_,_=>none
 | f+1,.mk k c s,nx,ns=>
  if k=1 then Cx ns ⟨c,[nx]⟩
  else if k=3 then
   match zY (kj b f) s nx [] ns with
   | some (to,ns')=>Cx ns' ⟨[],to⟩
   | none=>none
  else if k=4 then
   match s with
   | []=>none
   | q::_=>
    if ns.length≤10000 then
     match kj b f q ns.length (ns++[⟨[],[]⟩]) with
     | some (i,ns')=>(match ns'[ns.length]? with|some n=>some (ns.length,ns'.set ns.length ⟨n.cls,[i,nx]⟩)|none=>none)
     | none=>none
    else none
  else if s.length≤10000 then vB (kj b f) (if b then s else s.reverse) nx ns else none
abbrev neB (ns:List Nd) (b:Bool):List (Nat×Box):=[(0,.cells [.sl 1 0 ns.length ns.length 2 false,boo b] true),(1,.cells (ns.flatMap ndC) false)]
abbrev neR (ns:List Nd) (b:Bool):List (Nat×Box):=[(0,.cells [.sl 2 0 ns.length ns.length 2 false,boo b] true),(2,.cells (ns.flatMap ndC) false)]
section
variable {h:aB}{fz:Nat→Bool}{σ:Nat→Option Nat}
theorem l9 {l:List Nd}{n:Nd}{d d':D}(hd:Rd h fz σ d (aQ n.cls)) (hd':Rd h fz σ d' (cu n.to)):Rds h fz σ (((l.flatMap ndC).drop 0).take (l.length*2)++[d,d']) ((l++[n]).flatMap ndC):=by
 rw[List.flatMap_append];refine Rds.app (.eqs ?_ (aM kS _)) (.cons hd (.cons hd' .nil));rw[List.drop_zero,kE (by rw[av (sz:=2) (fun _=>rfl)];exact kP _)]
theorem dA {id:Nat}{l:List Nat}{ex bx:Bool}{cs:List D}(hf:fz id=true) (hg:h.get id=some (.cells cs bx)) (e:cs=l.map cJ):Rd h fz σ (.sl id 0 l.length l.length 1 ex) (cu l):=by
 subst e;refine .frz hf hg (by simp) (.eqs ?_ (aY (fun _=>rfl) _));rw[List.drop_zero,kE (by simp)]
end
theorem uU:∀ {l:List Nd}{k:Nat}{n:Nd}(to:List Nat),l[k]?=some n→(l.flatMap ndC).set (k*2+1) (cu to)=(l.set k ⟨n.cls,to⟩).flatMap ndC
 | [],_,_,_,h=>by simp at h
 | m::l,0,n,to,h=>by simp at h;subst h;rfl
 | m::l,k+1,n,to,h=>by
  have ih:=uU (l:=l) (k:=k) (n:=n) to (by simpa using h);rw[show(k+1)*2+1=(k*2+1)+1+1 from by omega];simp only[List.flatMap_cons,List.set_cons_succ,List.cons_append,List.nil_append];rw[ih]
theorem DF {h:aB}{fz:Nat→Bool}{σ:Nat→Option Nat}{l:List Nd}{k off:Nat}{n:Nd}{to:List Nat}{d:D}(hk:l[k]?=some n) (ho:off=k*2+1) (hd:Rd h fz σ d (cu to)):Rds h fz σ ((l.flatMap ndC).set off d) ((l.set k ⟨n.cls,to⟩).flatMap ndC):=by
 subst ho;exact Rds.tr rfl (uU to hk) (Rds.at hd _ (aM kS _))
theorem Idx.atSE {α:Type}{c:α→List D}{sz:Nat}(hc:∀ x,(c x).length=sz){l:List α}{m:Int}(k:Nat){ds:List D}{K:D→Prop}(e:m=(k:Int)) (h:k<l.length) (ed:c l[k]=ds) (go:K (.iptr ds)):Idx l.length (l.flatMap c) sz m K:=Idx.atS hc k e h (by rw[ed];exact go)
theorem aV (k:Int) (c:List Int) (s:List Pat):aH (.agg [i64 k,aQ c,lstS cw s])=true:=by
 have:=cE (.mk k c s)
 rw[dH] at this;exact this
set_option maxHeartbeats 4000000 in
theorem vJ {b:Bool}:∀ (F:Nat) (p:Pat) (nx:Nat) (ns:List Nd) (r:Nat) (ns':List Nd),kj b F p nx ns=some (r,ns') →
  AC1 Tryz.prog 133 [.ptr 0 0,.agg (cw p),i64 (nx:Int)] ⟨2,neB ns b⟩ (i64 (r:Int)) ⟨3,neR ns' b⟩
 | 0,_,_,_,_,_,h=>by simp[kj] at h
 | F+1,.mk k c s,nx,ns,r,ns',h=>by
  rw[dH];refine AC1.of_vl aA T0 Tryz.func133 rfl rfl ?_;simp only[kj] at h;by_cases h1:k=1
  ·subst h1;simp only[if_true,Cx] at h;split at h
   ·rename_i hl;simp only[kA,kB] at h;obtain⟨rfl,rfl⟩:=h;repeat' ((conv=>whnf)<;>(first|refine aE.weak (nb:=2) (x:=Code.ret) aA T0 (s0:=⟨tmp 95 [(6,i64 (ns.length:Int))],⟨3,neR (ns++[⟨c,[nx]⟩]) b⟩⟩) ?_ ?_|refine aE.go aA T0 ?_|exact kQ|(refine Br.mk (fun _=>?_) (fun _=>?_)<;>(try(exfalso;omega)))|refine stq ?_|(apply Cll.inl aA T0 Tryz.func163 rfl rfl ?_;rotate_left)|refine bS.by (id:=1) aA T0 [0,0,2,6,14,0,32,126,255,511,1023] (by kernel_rfl) ?_|exact⟨Or.inr rfl,rfl,rfl⟩|fail))
    ·exact Lf.of3 [(2,_)] [12] (by repeat(first|exact aI.nil|refine aI.cons rfl (by first|exact Rd.sl' rfl (by simp;done) (by simp;done)|exact Rd.int (by simp;done)|exact rdA|fail) ?_)) (by repeat(first|exact Bxs.nil|refine Bxs.cons rfl rfl rfl (by first|exact Rb.cells (l9 (Rd.same (aD _)) (dA (l:=[nx]) rfl rfl rfl)) rfl|exact rbB|exact Rb.cells (by(repeat(first|exact Rds.nil|refine Rds.cons (by first|exact Rd.sl' rfl (by simp;done) (by simp;done)|exact Rd.int (by simp;done)|exact rdA|fail) ?_|fail));(first|done|fail)) rfl|exact rbC|fail) ?_)) rfl rfl rfl
   ·cases h
  rw[if_neg h1] at h;by_cases h3:k=3
  ·subst h3;simp only[if_true] at h;cases halt:zY (kj b F) s nx [] ns with
   | none=>simp[halt] at h
   | some q=>
   obtain⟨to',ns1⟩:=q;simp only[halt,Cx] at h;split at h
   ·rename_i hl;simp only[kA,kB] at h;obtain⟨rfl,rfl⟩:=h;repeat' ((conv=>whnf)<;>(first|refine aE.go aA T0 ?_|exact kQ|(refine Br.mk (fun _=>?_) (fun _=>?_)<;>(try(exfalso;omega)))|refine stq ?_|fail))
    refine aT.by3 aA T0 (fun(k:Nat) (to:List Nat) (ns:List Nd)=>⟨tmp 95 [(0,.ptr 0 0),(2,i64 (nx:Int)),(7,aj 4 1 to),(27,lstS cw s),(28,i64 s.length),(29,i64 (k:Int))],⟨5,cx 4 (fun k=>[cJ k]) to++[(0,.cells [.sl 3 0 ns.length ns.length 2 false,boo b] true),(3,.cells (ns.flatMap ndC) false)]⟩⟩)
     (fun k to ns=>zY (kj b F) (s.drop k) nx to ns=some (to',ns1)∧k≤s.length∧to.length≤10001∧to.length=k) (fun k _ _=>s.length-k) 0 [] ns ⟨halt,by omega,by simp,rfl⟩ ?_ ?_
    ·exact Lf.of3 [(3,_)] [] enA bxA rfl rfl rfl
    clear halt;intro k to ns ⟨halt,hk,hto,htk⟩;by_cases hk2:k<s.length
    ·rw[kK hk2] at halt;simp only[zY] at halt;cases hadd:kj b F s[k] nx ns with
     | none=>simp[hadd] at halt
     | some q=>
     obtain⟨i,ns2⟩:=q;simp only[hadd] at halt;split at halt
     ·rename_i hto2;have ih:=vJ F s[k] nx ns i ns2 hadd;cases hq:s[k] with
      | mk k' c' s'=>
      rw[hq,dH] at ih;have hpc:cw s[k]=[i64 k',aQ c',lstS cw s']:=by rw[hq,dH]
      cases to with
      | nil=>
       repeat' ((conv=>whnf)<;>(first|refine Idx.atSE fD k rfl hk2 hpc ?_|refine aE.go aA T0 ?_|exact kQ|(refine Br.mk (fun _=>?_) (fun _=>?_)<;>(try(exfalso;omega)))|refine stq ?_|refine Cll.emb ih [(0,0),(1,3)] [] (i64 (i:Int)) [(0,.cells [.sl 15 0 ns2.length ns2.length 2 false,boo b] true),(15,.cells (ns2.flatMap ndC) false)] [] rfl (by(repeat(first|exact Rds.nil|refine Rds.cons (by first|exact Rd.same (aV _ _ _)|exact rdA|fail) ?_|fail));(first|done|fail)) (by(repeat(first|exact Bxs.nil|refine Bxs.cons rfl rfl rfl (by first|exact rbB|exact Rb.cells (by(repeat(first|exact Rds.nil|refine Rds.cons (by first|exact Rd.same (aV _ _ _)|exact rdA|fail) ?_|fail));(first|done|fail)) rfl|exact rbC|fail) ?_|fail));(first|done|fail)) (by first|exact Rd.same (aV _ _ _)|exact rdA|fail) (by(repeat(first|exact Bxs.nil|refine Bxs.cons rfl rfl rfl (by first|exact rbB|exact Rb.cells (by(repeat(first|exact Rds.nil|refine Rds.cons (by first|exact Rd.same (aV _ _ _)|exact rdA|fail) ?_|fail));(first|done|fail)) rfl|exact rbC|fail) ?_|fail));(first|done|fail)) (by(repeat(first|exact ap.nil|refine ap.cons rfl rfl rfl ?_|fail));(first|done|fail)) ?_|fail))
       all_goals(conv=>whnf)
       refine⟨k+1,[i],ns2,⟨halt,by omega,by simp,by simp at htk ⊢;omega⟩,by omega,?_⟩;exact Lf.of2 [(3,_),(4,_)] [] enA bxA rfl rfl
      | cons y ys=>
       have hy2:(y::ys).length=ys.length+1:=rfl;repeat' ((conv=>whnf)<;>(first|refine Idx.atSE fD k rfl hk2 hpc ?_|refine aE.go aA T0 ?_|exact kQ|(refine Br.mk (fun _=>?_) (fun _=>?_)<;>(try(exfalso;omega)))|refine stq ?_|refine Cll.emb ih [(0,0),(1,3)] [] (i64 (i:Int)) [(0,.cells [.sl 15 0 ns2.length ns2.length 2 false,boo b] true),(15,.cells (ns2.flatMap ndC) false)] [(4,.cells ((y::ys).flatMap fun k=>[cJ k]) false)] rfl (by(repeat(first|exact Rds.nil|refine Rds.cons (by first|exact Rd.same (aV _ _ _)|exact rdA|fail) ?_|fail));(first|done|fail)) (by(repeat(first|exact Bxs.nil|refine Bxs.cons rfl rfl rfl (by first|exact rbB|exact Rb.cells (by(repeat(first|exact Rds.nil|refine Rds.cons (by first|exact Rd.same (aV _ _ _)|exact rdA|fail) ?_|fail));(first|done|fail)) rfl|exact rbC|fail) ?_|fail));(first|done|fail)) (by first|exact Rd.same (aV _ _ _)|exact rdA|fail) (by(repeat(first|exact Bxs.nil|refine Bxs.cons rfl rfl rfl (by first|exact rbB|exact Rb.cells (by(repeat(first|exact Rds.nil|refine Rds.cons (by first|exact Rd.same (aV _ _ _)|exact rdA|fail) ?_|fail));(first|done|fail)) rfl|exact rbC|fail) ?_|fail));(first|done|fail)) (by(repeat(first|exact ap.nil|refine ap.cons rfl rfl rfl ?_|fail));(first|done|fail)) ?_|fail))
       all_goals(conv=>whnf)
       refine⟨k+1,(y::ys)++[i],ns2,⟨halt,by omega,by simp at hto2 ⊢;omega,by simp at htk ⊢;omega⟩,by omega,?_⟩;exact Lf.of2 [(3,_),(4,_)] [] (by repeat(first|exact aI.nil|refine aI.cons rfl (by first|exact Rd.own (l:=(y::ys)++[i]) (by simp) rfl (by simp) (by simp)|exact rdA|fail) ?_)) (by repeat(first|exact Bxs.nil|refine Bxs.cons rfl rfl rfl (by first|exact Rb.cells (Rds.eqs (bA (c:=fun k=>[cJ k]) (by intro _;rfl) (y::ys) _) (aM (by intro _;rfl) _)) rfl|exact rbB|exact Rb.cells (by(repeat(first|exact Rds.nil|refine Rds.cons (by first|exact Rd.own (l:=(y::ys)++[i]) (by simp) rfl (by simp) (by simp)|exact rdA|fail) ?_|fail));(first|done|fail)) rfl|exact rbC|fail) ?_)) rfl rfl
     ·cases halt
    ·rw[List.drop_eq_nil_of_le (by omega)] at halt;simp only[zY,kA,kB] at halt;obtain⟨rfl,rfl⟩:=halt;cases to with
     | nil=>
      repeat' ((conv=>whnf)<;>(first|refine aE.weak (nb:=2) (x:=Code.ret) aA T0 (s0:=⟨tmp 95 [(6,i64 (ns.length:Int))],⟨3,neR (ns++[⟨[],[]⟩]) b⟩⟩) ?_ ?_|refine aE.go aA T0 ?_|exact kQ|(refine Br.mk (fun _=>?_) (fun _=>?_)<;>(try(exfalso;omega)))|refine stq ?_|(apply Cll.inl aA T0 Tryz.func163 rfl rfl ?_;rotate_left)|refine bS.by (id:=1) aA T0 [0,0,2,6,14,0,32,126,255,511,1023] (by kernel_rfl) ?_|exact⟨Or.inr rfl,rfl,rfl⟩|fail))
      exact Lf.of3 [(2,_)] [] (by repeat(first|exact aI.nil|refine aI.cons rfl (by first|exact Rd.sl' rfl (by simp;done) (by simp;done)|exact Rd.int (by simp;done)|exact rdA|fail) ?_)) (by repeat(first|exact Bxs.nil|refine Bxs.cons rfl rfl rfl (by first|exact Rb.cells (l9 (n:=⟨[],[]⟩) Rd.nil Rd.nil) rfl|exact rbB|exact Rb.cells (by(repeat(first|exact Rds.nil|refine Rds.cons (by first|exact Rd.sl' rfl (by simp;done) (by simp;done)|exact Rd.int (by simp;done)|exact rdA|fail) ?_|fail));(first|done|fail)) rfl|exact rbC|fail) ?_)) rfl rfl rfl
     | cons y ys=>
      repeat' ((conv=>whnf)<;>(first|refine aE.weak (nb:=2) (x:=Code.ret) aA T0 (s0:=⟨tmp 95 [(6,i64 (ns.length:Int))],⟨3,neR (ns++[⟨[],y::ys⟩]) b⟩⟩) ?_ ?_|refine aE.go aA T0 ?_|exact kQ|(refine Br.mk (fun _=>?_) (fun _=>?_)<;>(try(exfalso;omega)))|refine stq ?_|(apply Cll.inl aA T0 Tryz.func163 rfl rfl ?_;rotate_left)|refine bS.by (id:=1) aA T0 [0,0,2,6,14,0,32,126,255,511,1023] (by kernel_rfl) ?_|exact⟨Or.inr rfl,rfl,rfl⟩|fail))
      exact Lf.of3 [(2,_)] [4] (by repeat(first|exact aI.nil|refine aI.cons rfl (by first|exact Rd.sl' rfl (by simp;done) (by simp;done)|exact Rd.int (by simp;done)|exact rdA|fail) ?_)) (by repeat(first|exact Bxs.nil|refine Bxs.cons rfl rfl rfl (by first|exact Rb.cells (l9 (n:=⟨[],y::ys⟩) Rd.nil (dA (l:=y::ys) rfl rfl (af _))) rfl|exact rbB|exact Rb.cells (by(repeat(first|exact Rds.nil|refine Rds.cons (by first|exact Rd.sl' rfl (by simp;done) (by simp;done)|exact Rd.int (by simp;done)|exact rdA|fail) ?_|fail));(first|done|fail)) rfl|exact rbC|fail) ?_)) rfl rfl rfl
   ·cases h
  rw[if_neg h3] at h;by_cases h4:k=4
  ·subst h4;simp only[if_true] at h;cases s with
   | nil=>cases h
   | cons q qs=>
   simp only at h;split at h
   ·rename_i hl;cases hadd:kj b F q ns.length (ns++[⟨[],[]⟩]) with
    | none=>simp[hadd] at h
    | some z=>
    obtain⟨i,ns1⟩:=z;simp only[hadd] at h;cases hget:ns1[ns.length]? with
    | none=>simp[hget] at h
    | some n=>
    simp only[hget,kA,kB] at h;obtain⟨rfl,rfl⟩:=h;obtain⟨hlt,hgt⟩:=List.getElem?_eq_some_iff.1 hget;have hfl:(ns1.flatMap ndC).length=ns1.length*2:=av (c:=ndC) (sz:=2) (fun _=>rfl) _;have ih:=vJ F q ns.length (ns++[⟨[],[]⟩]) i ns1 hadd;cases q with
    | mk k' c' s'=>
    rw[dH] at ih
    repeat' ((conv=>whnf)<;>(first|refine Idx.atSE (l:=Pat.mk k' c' s' :: qs) fD 0 rfl (by simp) (dH k' c' s') ?_|refine aE.weak (nb:=2) (x:=Code.ret) aA T0 (s0:=⟨tmp 95 [(6,i64 (ns.length:Int))],⟨3,neR (ns1.set ns.length ⟨n.cls,[i,nx]⟩) b⟩⟩) ?_ ?_|refine aE.go aA T0 ?_|exact kQ|(refine Br.mk (fun _=>?_) (fun _=>?_)<;>(try(exfalso;omega)))|refine stq ?_|(apply Cll.inl aA T0 Tryz.func163 rfl rfl ?_;rotate_left)|refine bS.by (id:=1) aA T0 [0,0,2,6,14,0,32,126,255,511,1023] (by kernel_rfl) ?_|exact⟨Or.inr rfl,rfl,rfl⟩|refine Cll.emb ih [(0,0),(1,24)] [] (i64 (i:Int)) [(0,.cells [.sl 43 0 ns1.length ns1.length 2 false,boo b] true),(43,.cells (ns1.flatMap ndC) false)] [] rfl (by(repeat(first|exact Rds.nil|refine Rds.cons (by first|exact Rd.same (aV _ _ _)|exact Rd.sl' rfl (by simp;done) (by simp;done)|exact Rd.int (by simp;done)|exact rdA|fail) ?_|fail));(first|done|fail)) (by(repeat(first|exact Bxs.nil|refine Bxs.cons rfl rfl rfl (by first|exact Rb.cells (l9 (n:=⟨[],[]⟩) Rd.nil Rd.nil) rfl|exact rbB|exact Rb.cells (by(repeat(first|exact Rds.nil|refine Rds.cons (by first|exact Rd.same (aV _ _ _)|exact Rd.sl' rfl (by simp;done) (by simp;done)|exact Rd.int (by simp;done)|exact rdA|fail) ?_|fail));(first|done|fail)) rfl|exact rbC|fail) ?_|fail));(first|done|fail)) (by first|exact Rd.same (aV _ _ _)|exact Rd.sl' rfl (by simp;done) (by simp;done)|exact Rd.int (by simp;done)|exact rdA|fail) (by(repeat(first|exact Bxs.nil|refine Bxs.cons rfl rfl rfl (by first|exact Rb.cells (l9 (n:=⟨[],[]⟩) Rd.nil Rd.nil) rfl|exact rbB|exact Rb.cells (by(repeat(first|exact Rds.nil|refine Rds.cons (by first|exact Rd.same (aV _ _ _)|exact Rd.sl' rfl (by simp;done) (by simp;done)|exact Rd.int (by simp;done)|exact rdA|fail) ?_|fail));(first|done|fail)) rfl|exact rbC|fail) ?_|fail));(first|done|fail)) (by(repeat(first|exact ap.nil|refine ap.cons rfl rfl rfl ?_|fail));(first|done|fail)) ?_|refine ch.at ns.length (by omega) hlt ?_|refine Put.at (by rw[hfl];simp;omega) ?_|fail))
    exact Lf.of3 [(2,_)] [52] (by repeat(first|exact aI.nil|refine aI.cons rfl (by first|exact Rd.sl' rfl (by simp;done) (by simp;done)|exact Rd.int (by simp;done)|exact rdA|fail) ?_)) (by repeat(first|exact Bxs.nil|refine Bxs.cons rfl rfl rfl (by first|exact Rb.cells (DF hget (by simp;done) (dA (l:=[i,nx]) rfl rfl rfl)) rfl|exact rbB|exact Rb.cells (by(repeat(first|exact Rds.nil|refine Rds.cons (by first|exact Rd.sl' rfl (by simp;done) (by simp;done)|exact Rd.int (by simp;done)|exact rdA|fail) ?_|fail));(first|done|fail)) rfl|exact rbC|fail) ?_)) rfl rfl rfl
   ·cases h
  rw[if_neg h4] at h;split at h
  ·rename_i hsl;cases b with
   | true=>
    repeat' ((conv=>whnf)<;>(first|refine aE.go aA T0 ?_|exact kQ|(refine Br.mk (fun _=>?_) (fun _=>?_)<;>(try(exfalso;omega)))|refine stq ?_|fail))
    refine aT.by3 aA T0 (fun(j:Nat) (nx:Nat) (ns:List Nd)=>⟨tmp 95 [(0,.ptr 0 0),(2,i64 (nx:Int)),(4,.ptr 4 0),(70,i64 s.length),(71,i64 (j:Int))],⟨5,[(4,.cells [i64 k,aQ c,lstS cw s] true),(0,.cells [.sl 3 0 ns.length ns.length 2 false,boo true] true),(3,.cells (ns.flatMap ndC) false)]⟩⟩)
     (fun j nx ns=>vB (kj true F) ((s).drop j) nx ns=some (r,ns')∧j≤s.length) (fun j _ _=>s.length-j) 0 nx ns ⟨h,by omega⟩ ?_ ?_
    ·exact Lf.of3 [(3,_),(4,_)] [] enA (by repeat(first|exact Bxs.nil|refine Bxs.cons rfl rfl rfl (by first|exact Rb.cells (Rds.same (aV _ _ _)) rfl|exact rbB|exact Rb.cells bk rfl|exact rbC|fail) ?_)) rfl rfl rfl
    clear h;intro j nx ns ⟨hcat,hj⟩;by_cases hj2:j<s.length
    ·rw[kK (by first|omega|(simp;omega))] at hcat;simp only[vB] at hcat;have hix:j<s.length:=by omega
     have hL:(s)[j]'(by first|omega|(simp;omega))=s[j]:=rfl;rw[hL] at hcat;cases hadd:kj true F s[j] nx ns with
     | none=>simp[hadd] at hcat
     | some q=>
     obtain⟨i,ns2⟩:=q;simp only[hadd] at hcat;have ih:=vJ F s[j] nx ns i ns2 hadd;cases hq:s[j] with
     | mk k' c' s'=>
     rw[hq,dH] at ih;have hpc:cw s[j]=[i64 k',aQ c',lstS cw s']:=by rw[hq,dH]
     repeat' ((conv=>whnf)<;>(first|refine Idx.atSE fD (j) (by omega) hix hpc ?_|refine aE.go aA T0 ?_|exact kQ|(refine Br.mk (fun _=>?_) (fun _=>?_)<;>(try(exfalso;omega)))|refine stq ?_|refine Cll.emb ih [(0,0),(1,3)] [] (i64 (i:Int)) [(0,.cells [.sl 21 0 ns2.length ns2.length 2 false,boo true] true),(21,.cells (ns2.flatMap ndC) false)] [(4,.cells [i64 k,aQ c,lstS cw s] true)] rfl (by(repeat(first|exact Rds.nil|refine Rds.cons (by first|exact Rd.same (aV _ _ _)|exact rdA|fail) ?_|fail));(first|done|fail)) (by(repeat(first|exact Bxs.nil|refine Bxs.cons rfl rfl rfl (by first|exact rbB|exact Rb.cells (by(repeat(first|exact Rds.nil|refine Rds.cons (by first|exact Rd.same (aV _ _ _)|exact rdA|fail) ?_|fail));(first|done|fail)) rfl|exact rbC|fail) ?_|fail));(first|done|fail)) (by first|exact Rd.same (aV _ _ _)|exact rdA|fail) (by(repeat(first|exact Bxs.nil|refine Bxs.cons rfl rfl rfl (by first|exact rbB|exact Rb.cells (by(repeat(first|exact Rds.nil|refine Rds.cons (by first|exact Rd.same (aV _ _ _)|exact rdA|fail) ?_|fail));(first|done|fail)) rfl|exact rbC|fail) ?_|fail));(first|done|fail)) (by(repeat(first|exact ap.nil|refine ap.cons rfl rfl rfl ?_|fail));(first|done|fail)) ?_|fail))
     all_goals(conv=>whnf)
     refine⟨j+1,i,ns2,⟨hcat,by omega⟩,by omega,?_⟩;exact Lf.of2 [(3,_),(4,_)] [] enA (by repeat(first|exact Bxs.nil|refine Bxs.cons rfl rfl rfl (by first|exact Rb.cells (Rds.same (aV _ _ _)) rfl|exact rbB|exact Rb.cells bk rfl|exact rbC|fail) ?_)) rfl rfl
    ·rw[List.drop_eq_nil_of_le (by first|omega|(simp;omega))] at hcat;simp only[vB,kA,kB] at hcat;obtain⟨rfl,rfl⟩:=hcat;repeat' ((conv=>whnf)<;>(first|refine aE.weak (nb:=2) (x:=Code.ret) aA T0 (s0:=⟨tmp 95 [(6,i64 (nx:Int))],⟨3,neR ns true⟩⟩) ?_ ?_|refine aE.go aA T0 ?_|exact kQ|(refine Br.mk (fun _=>?_) (fun _=>?_)<;>(try(exfalso;omega)))|refine stq ?_|exact⟨Or.inr rfl,rfl,rfl⟩|fail))
     exact Lf.of3 [(2,_)] [] enA bxA rfl rfl rfl
   | false=>
    rw[if_neg (by simp)] at h;repeat' ((conv=>whnf)<;>(first|refine aE.go aA T0 ?_|exact kQ|(refine Br.mk (fun _=>?_) (fun _=>?_)<;>(try(exfalso;omega)))|refine stq ?_|fail))
    refine aT.by3 aA T0 (fun(j:Nat) (nx:Nat) (ns:List Nd)=>⟨tmp 95 [(0,.ptr 0 0),(2,i64 (nx:Int)),(4,.ptr 4 0),(70,i64 s.length),(71,i64 (j:Int))],⟨5,[(4,.cells [i64 k,aQ c,lstS cw s] true),(0,.cells [.sl 3 0 ns.length ns.length 2 false,boo false] true),(3,.cells (ns.flatMap ndC) false)]⟩⟩)
     (fun j nx ns=>vB (kj false F) ((s.reverse).drop j) nx ns=some (r,ns')∧j≤s.length) (fun j _ _=>s.length-j) 0 nx ns ⟨h,by omega⟩ ?_ ?_
    ·exact Lf.of3 [(3,_),(4,_)] [] enA (by repeat(first|exact Bxs.nil|refine Bxs.cons rfl rfl rfl (by first|exact Rb.cells (Rds.same (aV _ _ _)) rfl|exact rbB|exact Rb.cells bk rfl|exact rbC|fail) ?_)) rfl rfl rfl
    clear h;intro j nx ns ⟨hcat,hj⟩;by_cases hj2:j<s.length
    ·rw[kK (by first|omega|(simp;omega))] at hcat;simp only[vB] at hcat;have hix:(s.length-1-j)<s.length:=by omega
     have hL:(s.reverse)[j]'(by first|omega|(simp;omega))=s[(s.length-1-j)]:=by simp
     rw[hL] at hcat;cases hadd:kj false F s[(s.length-1-j)] nx ns with
     | none=>simp[hadd] at hcat
     | some q=>
     obtain⟨i,ns2⟩:=q;simp only[hadd] at hcat;have ih:=vJ F s[(s.length-1-j)] nx ns i ns2 hadd;cases hq:s[(s.length-1-j)] with
     | mk k' c' s'=>
     rw[hq,dH] at ih;have hpc:cw s[(s.length-1-j)]=[i64 k',aQ c',lstS cw s']:=by rw[hq,dH]
     repeat' ((conv=>whnf)<;>(first|refine Idx.atSE fD ((s.length-1-j)) (by omega) hix hpc ?_|refine aE.go aA T0 ?_|exact kQ|(refine Br.mk (fun _=>?_) (fun _=>?_)<;>(try(exfalso;omega)))|refine stq ?_|refine Cll.emb ih [(0,0),(1,3)] [] (i64 (i:Int)) [(0,.cells [.sl 28 0 ns2.length ns2.length 2 false,boo false] true),(28,.cells (ns2.flatMap ndC) false)] [(4,.cells [i64 k,aQ c,lstS cw s] true)] rfl (by(repeat(first|exact Rds.nil|refine Rds.cons (by first|exact Rd.same (aV _ _ _)|exact rdA|fail) ?_|fail));(first|done|fail)) (by(repeat(first|exact Bxs.nil|refine Bxs.cons rfl rfl rfl (by first|exact rbB|exact Rb.cells (by(repeat(first|exact Rds.nil|refine Rds.cons (by first|exact Rd.same (aV _ _ _)|exact rdA|fail) ?_|fail));(first|done|fail)) rfl|exact rbC|fail) ?_|fail));(first|done|fail)) (by first|exact Rd.same (aV _ _ _)|exact rdA|fail) (by(repeat(first|exact Bxs.nil|refine Bxs.cons rfl rfl rfl (by first|exact rbB|exact Rb.cells (by(repeat(first|exact Rds.nil|refine Rds.cons (by first|exact Rd.same (aV _ _ _)|exact rdA|fail) ?_|fail));(first|done|fail)) rfl|exact rbC|fail) ?_|fail));(first|done|fail)) (by(repeat(first|exact ap.nil|refine ap.cons rfl rfl rfl ?_|fail));(first|done|fail)) ?_|fail))
     all_goals(conv=>whnf)
     refine⟨j+1,i,ns2,⟨hcat,by omega⟩,by omega,?_⟩;exact Lf.of2 [(3,_),(4,_)] [] enA (by repeat(first|exact Bxs.nil|refine Bxs.cons rfl rfl rfl (by first|exact Rb.cells (Rds.same (aV _ _ _)) rfl|exact rbB|exact Rb.cells bk rfl|exact rbC|fail) ?_)) rfl rfl
    ·rw[List.drop_eq_nil_of_le (by first|omega|(simp;omega))] at hcat;simp only[vB,kA,kB] at hcat;obtain⟨rfl,rfl⟩:=hcat;repeat' ((conv=>whnf)<;>(first|refine aE.weak (nb:=2) (x:=Code.ret) aA T0 (s0:=⟨tmp 95 [(6,i64 (nx:Int))],⟨3,neR ns false⟩⟩) ?_ ?_|refine aE.go aA T0 ?_|exact kQ|(refine Br.mk (fun _=>?_) (fun _=>?_)<;>(try(exfalso;omega)))|refine stq ?_|exact⟨Or.inr rfl,rfl,rfl⟩|fail))
     exact Lf.of3 [(2,_)] [] enA bxA rfl rfl rfl
  ·cases h
end
section
open Go Go.Am Classical
set_option maxRecDepth 100000
variable [GT]
theorem fL.posN {h:aB}{k:Str}{l:List Str}{n:Nat}{K:Option (Nat×D)→Prop}(yes:∀ i,k∈l→K (some (i,i64 ((n+l.idxOf k:Nat):Int)))) (no:¬k∈l→K none):fL h (.str k) (pos l n) K:=by
 obtain⟨r,h1,h2⟩:=m6 (h:=h) (k:=k) (l:=l) (n:=n) (i:=0);rcases h2 with⟨h2,rfl⟩|⟨h2,rfl⟩
 ·exact⟨_,h1,by simpa using yes _ h2⟩
 ·exact⟨_,h1,no h2⟩
section
variable {h:aB}{fz:Nat→Bool}{σ:Nat→Option Nat}
theorem Rd.owns {α:Type}{id id' es:Nat}{l:List α}(hs:σ id'=some id):Rd h fz σ (aj id es l) (aj id' es l):=by
 cases l with
 | nil=>exact .same rfl
 | cons x l=>exact .sl hs
end
abbrev bo (ss:List (List Nat)):List Str:=ss.map eB
abbrev nsC (s:List Nat):List D:=[cu s]
abbrev blC (b:Bool):List D:=[boo b]
theorem mn (s:List Nat):aC (nsC s)=true:=by simp[aC,bF]
theorem nq {d:D}(h:aH d=true):aC [d]=true:=by simp[aC,h]
abbrev mcC (n e:Nat) (b:Bool) (dn dh dr:D):List D:=[i64 n,i64 e,boo b,dn,dh,dr]
abbrev nuB (n e base:Nat) (b:Bool) (ss:List (List Nat)) (next:List (List Nat)) (hits:List Bool) (roots:List Nat):List (Nat×Box):=
 (0,.cells [.map 1] true)::(1,.map (pos (bo ss) base))::(2,.cells [aj 3 1 ss] true)::(4,.cells [.ptr 5 0] true)::(5,.cells (mcC n e b (aj 7 1 next) (aj 6 1 hits) (aj 8 1 roots)) true)::(cx 3 nsC ss++cx 6 blC hits)
theorem xO {base:Nat}{b:Bool}{ns:List Nd}{ss:List (List Nat)}{s:List Nat}(hl:s.length≤1000000) (hs:∀ i (h:i<s.length),s[i]<100) (hk:eB s∈bo ss) :
  AC1 Tryz.prog 129 [cu s,.ptr 0 0,.iptr [i64 (base:Int)],.ptr 2 0,.ptr 4 0,gq ns b]
   ⟨9,[(0,.cells [.map 1] true),(1,.map (pos (bo ss) base))]⟩ (i64 ((base+(bo ss).idxOf (eB s):Nat):Int)) ⟨25,[(0,.cells [.map 1] true),(1,.map (pos (bo ss) base))]⟩:=by
 refine AC1.of_vl aA T0 Tryz.func129 rfl rfl ?_;repeat' ((conv=>whnf)<;>(first|refine aE.go aA T0 ?_|exact kQ|(refine Br.mk (fun _=>?_) (fun _=>?_)<;>(try(exfalso;omega)))|refine stq ?_|refine Cll.pu (c7 sd sd) ?_|refine Cll.pu (c7 hl hs) ?_|(refine fL.posN (fun _ _=>?_) (fun _=>?_)<;>(try contradiction))|fail))
 all_goals(conv=>whnf)
 exact⟨Or.inr rfl,rfl,rfl⟩
abbrev nuR (n e base:Nat) (b:Bool) (ss:List (List Nat)) (next:List (List Nat)) (hits:List Bool) (roots:List Nat):List (Nat×Box):=
 [(0,.cells [.map 1] true),(1,.map (pos (bo ss) base)),(2,.cells [.sl 9 0 ss.length ss.length 1 false] true),(9,.cells (ss.flatMap nsC) false),(4,.cells [.ptr 5 0] true),(5,.cells (mcC n e b (aj 7 1 next) (.sl 10 0 hits.length hits.length 1 false) (aj 8 1 roots)) true),(10,.cells (hits.flatMap blC) false)]
theorem se {ss:List (List Nat)}{s:List Nat}{base:Nat}:pos (bo ss) base++[(D.str (eB s),i64 ((base:Int)+(ss.length:Int)))]=pos (bo (ss++[s])) base:=by
 simp only[bo,List.map_append,lJ];simp[pos]
set_option maxHeartbeats 4000000 in
theorem Aj {n e base F:Nat}{b:Bool}{ns:List Nd}{ss next:List (List Nat)}{s r:List Nat}{hits:List Bool}{roots:List Nat}(hl:s.length≤100000) (hs:∀ i (h:i<s.length),s[i]<100) (hk:¬eB s∈bo ss) (hsl:ss.length≤100000) (hbase:base≤100000)
  (hhl:hits.length=base+ss.length) (hF:F≤100000) (hnl:ns.length≤100000) (hset:∀ i (h:i<s.length),s[i]<ns.length) (hcl:∀ i (h:i<ns.length),ns[i].cls.length≤1000000) (hg:(gat ns (e:Int) s).length≤100000) (hst:stp ns F s (e:Int)=some r) (hrl:r.length≤1000000) :
  AC1 Tryz.prog 129 [cu s,.ptr 0 0,.iptr [i64 (base:Int)],.ptr 2 0,.ptr 4 0,gq ns b]
   ⟨9,nuB n e base b ss next hits roots⟩ (i64 ((base+ss.length:Nat):Int)) ⟨11,nuR n e base b (ss++[s]) next (hits++[decide (r=[0])]) roots⟩:=by
 have hstep:=z6 (b:=b) hF hnl hset (by omega) hcl hg hst;have hend:=tK (l:=r) hrl;have hl1:s.length≤1000000:=by omega
 refine AC1.of_vl aA T0 Tryz.func129 rfl rfl ?_;cases ss with
 | nil=>
  cases hits with
  | nil=>
   repeat' ((conv=>whnf)<;>(first|refine aE.weak (nb:=9) (x:=Code.ret) aA T0 (s0:=⟨tmp 49 [(7,i64 ((base+(([]:List (List Nat))).length:Nat):Int))],⟨11,nuR n e base b (([]:List (List Nat))++[s]) next ([]++[decide (r=[0])]) roots⟩⟩) ?_ ?_|refine aE.go aA T0 ?_|exact kQ|(refine Br.mk (fun _=>?_) (fun _=>?_)<;>(try(exfalso;omega)))|refine stq ?_|refine Cll.pu (c7 sd sd) ?_|refine aW.pu (c7 sd sd) ?_|refine Cll.pu (c7 hl1 hs) ?_|(refine fL.posN (fun _ _=>?_) (fun _=>?_)<;>(try contradiction))|refine bS.by (id:=7) aA T0 [0,0,2,6,14,0,0,64,192,448,992,2016,4064,8190,16383,32767,65535] (by kernel_rfl) ?_|refine aW.pu hstep ?_|refine aW.pu hend ?_|refine Chk.mk ⟨_,rfl⟩ ?_|exact⟨Or.inr rfl,rfl,rfl⟩|fail))
   exact Lf.of2 [(9,_),(10,_)] [] (by repeat(first|exact aI.nil|refine aI.cons rfl (by first|exact Rd.owns rfl|exact Rd.int (by simp;done)|exact Rd.int (by simp;omega)|exact Rd.sl' rfl (by simp;done) (by simp;done)|exact rdA|fail) ?_)) (by repeat(first|exact Bxs.nil|refine Bxs.cons rfl rfl rfl (by first|exact Rb.map (Res.eqs se (aZ _ _))|exact Rb.cells (Rds.same (nq (bF _))) rfl|exact rbB|exact Rb.cells (by(repeat(first|exact Rds.nil|refine Rds.cons (by first|exact Rd.owns rfl|exact Rd.int (by simp;done)|exact Rd.int (by simp;omega)|exact Rd.sl' rfl (by simp;done) (by simp;done)|exact rdA|fail) ?_|fail));(first|done|fail)) rfl|exact rbC|fail) ?_)) rfl rfl
  | cons y ys=>
   have hy2:(y::ys).length=ys.length+1:=rfl;repeat' ((conv=>whnf)<;>(first|refine aE.weak (nb:=9) (x:=Code.ret) aA T0 (s0:=⟨tmp 49 [(7,i64 ((base+(([]:List (List Nat))).length:Nat):Int))],⟨11,nuR n e base b (([]:List (List Nat))++[s]) next ((y::ys)++[decide (r=[0])]) roots⟩⟩) ?_ ?_|refine aE.go aA T0 ?_|exact kQ|(refine Br.mk (fun _=>?_) (fun _=>?_)<;>(try(exfalso;omega)))|refine stq ?_|refine Cll.pu (c7 sd sd) ?_|refine aW.pu (c7 sd sd) ?_|refine Cll.pu (c7 hl1 hs) ?_|(refine fL.posN (fun _ _=>?_) (fun _=>?_)<;>(try contradiction))|refine bS.by (id:=7) aA T0 [0,0,2,6,14,0,0,64,192,448,992,2016,4064,8190,16383,32767,65535] (by kernel_rfl) ?_|refine aW.pu hstep ?_|refine aW.pu hend ?_|refine Chk.mk ⟨_,rfl⟩ ?_|exact⟨Or.inr rfl,rfl,rfl⟩|fail))
   exact Lf.of2 [(9,_),(10,_)] [] (by repeat(first|exact aI.nil|refine aI.cons rfl (by first|exact Rd.owns rfl|exact Rd.int (by simp;done)|exact Rd.int (by simp;omega)|exact Rd.sl' rfl (by simp;done) (by simp;done)|exact rdA|fail) ?_)) (by repeat(first|exact Bxs.nil|refine Bxs.cons rfl rfl rfl (by first|exact Rb.map (Res.eqs se (aZ _ _))|exact Rb.cells (Rds.same (nq (bF _))) rfl|exact Rb.cells (Rds.eqs (bA (c:=blC) (by intro _;rfl) (y::ys) _) (aM (by intro _;rfl) _)) rfl|exact rbB|exact Rb.cells (by(repeat(first|exact Rds.nil|refine Rds.cons (by first|exact Rd.owns rfl|exact Rd.int (by simp;done)|exact Rd.int (by simp;omega)|exact Rd.sl' rfl (by simp;done) (by simp;done)|exact rdA|fail) ?_|fail));(first|done|fail)) rfl|exact rbC|fail) ?_)) rfl rfl
 | cons t ts=>
  obtain⟨y,ys,rfl⟩:=kI (show 0<hits.length by simp at hhl;omega);have hy2:(y::ys).length=ys.length+1:=rfl;have ht2:(t::ts).length=ts.length+1:=rfl;repeat' ((conv=>whnf)<;>(first|refine aE.weak (nb:=9) (x:=Code.ret) aA T0 (s0:=⟨tmp 49 [(7,i64 ((base+((t::ts)).length:Nat):Int))],⟨11,nuR n e base b ((t::ts)++[s]) next ((y::ys)++[decide (r=[0])]) roots⟩⟩) ?_ ?_|refine aE.go aA T0 ?_|exact kQ|(refine Br.mk (fun _=>?_) (fun _=>?_)<;>(try(exfalso;omega)))|refine stq ?_|refine Cll.pu (c7 sd sd) ?_|refine aW.pu (c7 sd sd) ?_|refine Cll.pu (c7 hl1 hs) ?_|(refine fL.posN (fun _ _=>?_) (fun _=>?_)<;>(try contradiction))|refine bS.by (id:=7) aA T0 [0,0,2,6,14,0,0,64,192,448,992,2016,4064,8190,16383,32767,65535] (by kernel_rfl) ?_|refine aW.pu hstep ?_|refine aW.pu hend ?_|refine Chk.mk ⟨_,rfl⟩ ?_|exact⟨Or.inr rfl,rfl,rfl⟩|fail))
  exact Lf.of2 [(9,_),(10,_)] [] (by repeat(first|exact aI.nil|refine aI.cons rfl (by first|exact Rd.owns rfl|exact Rd.int (by simp;done)|exact Rd.int (by simp;omega)|exact Rd.sl' rfl (by simp;done) (by simp;done)|exact rdA|fail) ?_)) (by repeat(first|exact Bxs.nil|refine Bxs.cons rfl rfl rfl (by first|exact Rb.map (Res.eqs se (aZ _ _))|exact Rb.cells (Rds.eqs (bA (c:=nsC) (by intro _;rfl) (t::ts) _) (aM mn _)) rfl|exact Rb.cells (Rds.eqs (bA (c:=blC) (by intro _;rfl) (y::ys) _) (aM (by intro _;rfl) _)) rfl|exact rbB|exact Rb.cells (by(repeat(first|exact Rds.nil|refine Rds.cons (by first|exact Rd.owns rfl|exact Rd.int (by simp;done)|exact Rd.int (by simp;omega)|exact Rd.sl' rfl (by simp;done) (by simp;done)|exact rdA|fail) ?_|fail));(first|done|fail)) rfl|exact rbC|fail) ?_)) rfl rfl
end
end Go.Proofs.YtjpgpihbhicinaaGreatDoor
