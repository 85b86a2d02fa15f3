/-
  Contracts of functions over data: layer 33 (the program): the property and the table of a kind, boundaries and ranges of a text.
-/
import Derived.Test.YtpgcjpcenaefpaaGreatDoorL0
import Derived.Test.YtpgcjpcenaefpaaGreatDoorHI
import Derived.Test.YtpgcjpcenaefpaaGreatDoorHE
import Derived.Test.YtpgcjpcenaefpaaGreatDoorD0
import Derived.Test.YtpgcjpcenaefpaaGreatDoorAmF
import Derived.Test.YtpgcjpcenaefpaaGreatDoorV0
set_option linter.unusedSectionVars false
namespace Go.Proofs.YtpgcjpcenaefpaaGreatDoor
section
open Go Go.Am Classical
set_option maxRecDepth 100000
noncomputable instance gtI:GT:=gtR
theorem yA {d:Db}{k:Nat}{t:Tbl}(hk:k=1\/k=2\/k=3\/k=4) (hl:∀ k,k<7->(prop d k).names.length<=30/\(prop d k).spans.length<=16) (he:@Pu gtR Tryz.prog 57 [dbD d] (i64 0)) (hT:@Pu gtR Tryz.prog 60 [i64 (k:Int)] (gQ t)):@Pu gtR Tryz.prog 119 [dbD d,i64 (k:Int)] (.tup [bV (prop d (k+2)),gQ t,i64 0]):=by
 letI:=gtR;have hp:∀ j:Nat,j<7->Pu Tryz.prog 58 [dbD d,i64 (j:Int)] (bV (prop d j)):=pZ hl;have hp3:Pu Tryz.prog 58 [dbD d,i64 3] (bV (prop d 3)):=hp 3 om;have hp4:Pu Tryz.prog 58 [dbD d,i64 4] (bV (prop d 4)):=hp 4 om;have hp5:Pu Tryz.prog 58 [dbD d,i64 5] (bV (prop d 5)):=hp 5 om;have hp6:Pu Tryz.prog 58 [dbD d,i64 6] (bV (prop d 6)):=hp 6 om;rcases hk with rfl|rfl|rfl|rfl
 all_goals
  refine pv Tryz.func119 ?_;repeat' ((conv=>whnf);first|exact kQ|(refine bk ?_ ?_<;>intro _<;>try exact exo)|refine stq ?_|refine cp he ?_|refine cp hp3 ?_|refine cp hp4 ?_|refine cp hp5 ?_|refine cp hp6 ?_|refine cp hT ?_|fail)
  all_goals(conv=>whnf)
  exact⟨Rd.eqd rfl (by simp[aK,aF,aM,aY,aj,kU])⟩
structure Good (d:Db):Prop where
 ok:d.ok
 sm:SmD d
 va:DbV d
theorem Good.chk {d:Db}(h:Good d):@Pu gtR Tryz.prog 57 [dbD d] (i64 0):=by
 obtain⟨e,he,hi⟩:=@lO gtR d h.ok h.sm;obtain rfl:=hi.2 h.va;exact he
theorem Good.data {d:Db}(h:Good d){k:Nat}{t:Tbl}(hk:k=1\/k=2\/k=3\/k=4) (hT:@Pu gtR Tryz.prog 60 [i64 (k:Int)] (gQ t)):@Pu gtR Tryz.prog 119 [dbD d,i64 (k:Int)] (.tup [bV (prop d (k+2)),gQ t,i64 0]):=yA hk (λk hk=>h.sm.2.1 k hk) h.chk hT
theorem yM {d:Db}{k:Int}{p:Prp}{t:Tbl}{text:List Int}{l:List Rng}(hd:@Pu gtR Tryz.prog 119 [dbD d,i64 k] (.tup [bV p,gQ t,i64 0])) (hb:@Pu gtR Tryz.prog 120 [bV p,gQ t,aD text] (aq l)):@Pu gtR Tryz.prog 86 [dbD d,i64 k,aD text] (.tup [aq l,i64 0]):=by
 letI:=gtR;refine pv Tryz.func86 ?_;repeat' ((conv=>whnf);first|exact kQ|(refine bk ?_ ?_<;>intro _<;>try exact exo)|refine stq ?_|refine cp hd ?_|refine cp hb ?_|fail)
 all_goals(conv=>whnf)
 exact⟨Rd.eqd rfl (by simp[aK,aF,am])⟩
theorem Good.prt {d:Db}(h:Good d){k:Nat}{t:Tbl}{text:List Int}(hk:k=1\/k=2\/k=3\/k=4) (ht:t.ok) (hT:@Pu gtR Tryz.prog 60 [i64 (k:Int)] (gQ t)) (hx:text.length<=1000):@Pu gtR Tryz.prog 86 [dbD d,i64 (k:Int),aD text] (.tup [aq (qR (prop d (k+2)) t text),i64 0]):=by
 letI:=gtR;have hs:=h.sm.2.1 (k+2) om;exact yM (h.data hk hT) (Id (h.ok.prop (k+2)) ht om om hx)
theorem HG {p:Prp}{t:Tbl}{text:List Int}(hv:TV t):Chn 0 (qR p t text) text.length:=by
 have hA:(cm p t text).length=text.length+1:=by rw[cm,if_pos hv,cj];simp[aV]
 rw[qR,if_pos hv];exact pd (BG hA)
end
section
open Go Go.Am Classical
set_option maxRecDepth 100000
theorem lb [GT] {h:aA}{fz:Nat->Bool}{σ:Nat->Option Nat}{id n cap:Nat}{b:List Int}{cs:List D}{ex bx:Bool}(hf:fz id=true) (hg:h.get id=some (.cells cs bx)) (ec:cs=b.map i64) (e:n=b.length):Rd h fz σ (.sl id 0 n cap 1 ex) (aD b):=by
 subst e;subst ec;refine .frz hf hg si (.eqs ?_ (aT (λ_=>rfl) _));rw[List.drop_zero,kE si]
theorem iL:∀ {P:List Rng}{s e:Int},Chn s P e->(P.length:Int)<=e-s
 | [],s,e,h=>by rw[show s=e from h];simp
 | r::P,s,e,h=>by have:=iL h.2.2;have:=h.2.1;have:=h.1;simp only[kO];omega
theorem Dp [GT] {n m:Nat}{l:List (Nat×Box)}(hn:Nat.ble n m=true):Sub ⟨n,l⟩ ⟨m,l⟩:=⟨kD hn,λ_ _ h=>h⟩
abbrev pce (text:List Int) (lo hi:Int):List Int:=(text.drop lo.toNat).take (hi-lo).toNat
end
section
open Go Go.Am
set_option maxRecDepth 1000000
abbrev fB:D:=.agg [strs cl1,aD (rs1.map (·.act)),bL LN1,bL LM1,bL RN1,bL RM1]
noncomputable def ub (g:FuncId) (ds:List D):Option D:=
 if Nat.beq g 80=true then(if nN ds [fB]=true then some (boo true) else none) else spC g ds
open Classical in
theorem valid1:@Pu gtR Tryz.prog 80 [fB] (boo true):=by
 letI:=gtR;have h:=kr (t:=t1) tv1.2;rw[decide_eq_true tv1.1,t1,<-sa] at h;exact h
theorem jH:@mX gtR Tryz.prog ub:=λg ds d h=>by
 letI:=gtR;unfold ub at h;split at h
 .rename_i hg;obtain rfl:=Nat.eq_of_beq_eq_true hg;split at h
  .rename_i he;injection h with h;subst h
   rw[ep _ _ he];exact valid1
  .cases h
 .exact eU g ds d h
end
section
open Go Go.Am Classical
set_option maxRecDepth 1000000
noncomputable abbrev gP (d:Db) (text:List Int):List Rng:=qR (prop d 3) t1 text
theorem Good.p1 {d:Db}(h:Good d){text:List Int}(hx:text.length<=1000):@Pu gtR Tryz.prog 86 [dbD d,i64 1,aD text] (.tup [aq (gP d text),i64 0]):=h.prt (k:=1) (.inl rfl) tv1.2 Ir hx
theorem rE (d:Db) (text:List Int):Chn 0 (gP d text) text.length:=HG tv1.1
end
section
open Go Go.Am Classical
set_option maxRecDepth 1000000
def jo (e:Int) (b:List Int):List Int:=b.filter λx=>decide (x<e)
theorem rh {b:List Int}{e:Int}(h:∀ a∈b,e<=a):jo e b=[]:=List.filter_eq_nil_iff.2 λa ha=>by have:=h a ha;simpa using this
theorem C9 {x e:Int}{b:List Int}(h:x<e):jo e (x::b)=x::jo e b:=List.filter_cons_of_pos (by simpa using h)
theorem DA (e:Int) (a b:List Int):jo e (a++b)=jo e a++jo e b:=List.filter_append ..
theorem vZ:∀ (b:List Int) (s e:Int),btw s (b++[e]++[e])=btw s (b++[e])
 | [],s,e=>by
  by_cases h:s<e
  .simp[btw,h]
  .simp[btw,h]
 | x::b,s,e=>by
  simp only[List.cons_append];by_cases h:s<x
  .rw[cF h,cF h,vZ b x e]
  .rw[dW h,dW h,vZ b s e]
theorem lM (l:List Int) (k:Nat):ends l (k+1)=ends l k++(if l.getD k 0≠1 then [(k:Int)] else []):=by
 unfold ends;rw[List.range_succ,List.filter_append,List.map_append];by_cases h:l.getD k 0=1
 .have e:decide (l.getD k 0≠1)=false:=decide_eq_false λhn=>hn h
  rw[if_neg λhn=>hn h];simp only[List.filter,e,List.map_nil]
 .have e:decide (l.getD k 0≠1)=true:=decide_eq_true h;rw[if_pos h];simp only[List.filter,e,List.map_cons,List.map_nil]
theorem IB (l:List Int) (k:Nat):∀ a∈ends l k,a<(k:Int):=λa ha=>by
 simp only[ends,List.mem_map,List.mem_filter,List.mem_range] at ha;obtain⟨i,⟨h1,_⟩,rfl⟩:=ha;omega
theorem oz (l:List Int) (k:Nat):∀ j,jo k (ends l (k+j))=ends l k
 | 0=>List.filter_eq_self.2 λa ha=>by simpa using IB l k a ha
 | j+1=>by
  rw[<-Nat.add_assoc,lM,DA,oz l k j];split
  .rw[rh (by simp;omega),List.append_nil]
  .simp[jo]
theorem rS {l m:List Int}:∀ {k:Nat},(∀ i,i<k->l.getD i 0=m.getD i 0)->ends l k=ends m k
 | 0,_=>rfl
 | k+1,h=>by rw[lM,lM,rS λi hi=>h i om,h k om]
theorem yV {t:Tbl}{l:List Int}{k:Nat}(h:k<=l.length):(acts t l).getD k 0=Bf t l k:=by
 rw[aI (by rw[cj];omega)];simp[acts]
theorem wM (N:List (List Int)) (l:List Int) (n:Nat):∀ k,k<=n->stL N (l.take n) k=stL N l k
 | 0,_=>rfl
 | k+1,h=>by
  simp only[stL];rw[wM N l n k om];congr 1;simp only[List.getD];rw[List.getElem?_take_of_lt om]
theorem one_B:(List.range cl1.length).all (λc=>Nat.ble (C4 RN1 c).length 1)=true:=by kernel_rfl
theorem one_at {c x y:Nat}(hc:c<cl1.length) (hx:x∈C4 RN1 c) (hy:y∈C4 RN1 c):x=y:=by
 have h:=kD (List.all_eq_true.1 one_B c (List.mem_range.2 hc))
 match e:C4 RN1 c with
 | []=>rw[e] at hx;cases hx
 | [a]=>rw[e] at hx hy;simp at hx hy;omega
 | _::_::_=>rw[e] at h;simp at h
theorem GA {l:List Int}(hc:CL l cl1.length){n k:Nat}(hn:n<=l.length) (hk:k<n):Bf t1 (l.take n) k=Bf t1 l k:=by
 letI:=gtR;have hlen:(l.take n).length=n:=by rw[List.length_take];omega
 have hc2:CL (l.take n) cl1.length:=λi h=>by rw[List.getElem_take];exact hc i om
 obtain⟨c,e⟩:∃ c:Nat,l[k]'(by omega)=(c:Int):=⟨(l[k]'(by omega)).toNat,by have:=hc k om;omega⟩;have hcl:c<cl1.length:=by have:=(hc k om).2;omega
 obtain⟨x,m1,e1⟩:=sy tv1.1 hc (by omega:k<l.length) e;obtain⟨y,m2,e2⟩:=sy tv1.1 hc2 (by omega:k<(l.take n).length) (by rw[List.getElem_take];exact e);have:=one_at hcl m1 m2
 subst this;unfold Bf;rw[wM _ _ _ _ om];rw[t1];rw[e1,e2]
end
end Go.Proofs.YtpgcjpcenaefpaaGreatDoor
