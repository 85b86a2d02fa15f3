/-
  The statement ClustersShorter over data.
-/
import Derived.Test.YtbmdndckndnehaaGreatDoorL6
set_option linter.unusedSectionVars false
namespace Go.Proofs.YtbmdndckndnehaaGreatDoor
open Go Go.Am Classical
set_option maxRecDepth 1000000
theorem Ad:∀ (b:List Int) (s:Int) (k:Nat),s<=b6 s (btw s b) k
 | [],s,k=>by cases k<;>exact Int.le_refl _
 | x::b,s,k=>by
  by_cases h:s<x
  ·rw[d6 h];cases k with
   | zero=>exact Int.le_refl _
   | succ k=>have:=Ad b x k;simp only[b6];omega
  ·rw[fQ h];exact Ad b s k
def jv (e:Int) (b:List Int):List Int:=b.filter λx=>decide (x<e)
theorem jj {b:List Int}{e:Int}(h:∀ a∈b,e<=a):jv e b=[]:=List.filter_eq_nil_iff.2 λa ha=>by have:=h a ha;simpa using this
theorem u3 {x e:Int}{b:List Int}(h:x<e):jv e (x::b)=x::jv e b:=List.filter_cons_of_pos (by simpa using h)
theorem yj {x e:Int}{b:List Int}(h:¬x<e):jv e (x::b)=jv e b:=List.filter_cons_of_neg (by simpa using h)
theorem u4 (e:Int) (a b:List Int):jv e (a++b)=jv e a++jv e b:=List.filter_append ..
theorem s7:∀ (b:List Int) (s:Int) (k:Nat),(s::b).Pairwise (·<=·)->k<=(btw s b).length->(btw s b).take k=btw s (jv (b6 s (btw s b) k) b++[b6 s (btw s b) k])
 | [],s,k,_,h=>by
  have:k=0:=by simpa [btw] using h
  subst this;simp[btw,b6,jv]
 | x::b,s,k,hp,h=>by
  have hp1:=List.pairwise_cons.1 hp;have hp2:=List.pairwise_cons.1 hp1.2;have hx:=hp1.1 x si;by_cases hs:s<x
  ·rw[d6 hs] at h ⊢;cases k with
   | zero=>
    have e0:b6 s (⟨s,x⟩::btw x b) 0=s:=rfl;rw[e0,List.take_zero,jj hp1.1,List.nil_append,fQ (Int.lt_irrefl _)];rfl
   | succ k=>
    have ih:=s7 b x k hp1.2 (by simpa using h);have hge:=Ad b x k;have e0:b6 s (⟨s,x⟩::btw x b) (k+1)=b6 x (btw x b) k:=rfl;rw[e0,List.take_succ_cons,ih];by_cases he:x<b6 x (btw x b) k
    ·rw[u3 he,List.cons_append,d6 hs]
    ·have hxe:b6 x (btw x b) k=x:=by omega
     rw[hxe,yj (Int.lt_irrefl _),jj hp2.1,List.nil_append,d6 hs,fQ (Int.lt_irrefl _)]
  ·have hsx:s=x:=by omega
   subst hsx;rw[fQ hs] at h ⊢;rw[s7 b s k hp1.2 h];by_cases he:s<b6 s (btw s b) k
   ·rw[u3 he,List.cons_append,fQ hs]
   ·rw[yj he]
theorem wT:∀ (b:List Int) (s e:Int),btw s (b++[e]++[e])=btw s (b++[e])
 | [],s,e=>by
  by_cases h:s<e
  ·simp[btw,h]
  ·simp[btw,h]
 | x::b,s,e=>by
  simp only[List.cons_append];by_cases h:s<x
  ·rw[d6 h,d6 h,wT b x e]
  ·rw[fQ h,fQ h,wT b s e]
theorem lx (l:List Int) (k:Nat):ends l (k+1)=ends l k++(if l.getD k 0≠1 then [(k:Int)] else []):=by
 unfold ends;rw[List.range_succ,List.filter_append,List.map_append];by_cases h:l.getD k 0=1
 ·have e:decide (l.getD k 0≠1)=false:=decide_eq_false λhn=>hn h
  rw[if_neg λhn=>hn h];simp only[List.filter,e,List.map_nil]
 ·have e:decide (l.getD k 0≠1)=true:=decide_eq_true h;rw[if_pos h];simp only[List.filter,e,List.map_cons,List.map_nil]
theorem Ig (l:List Int) (k:Nat):∀ a∈ends l k,a<(k:Int):=λa ha=>by
 simp only[ends,List.mem_map,List.mem_filter,List.mem_range] at ha;obtain⟨i,⟨h1,_⟩,rfl⟩:=ha;omega
theorem qJ (l:List Int) (k:Nat):∀ j,jv k (ends l (k+j))=ends l k
 | 0=>List.filter_eq_self.2 λa ha=>by simpa using Ig l k a ha
 | j+1=>by
  rw[<-Nat.add_assoc,lx,u4,qJ l k j];split
  ·rw[jj (by simp;omega),List.append_nil]
  ·simp[jv]
theorem sc {l m:List Int}:∀ {k:Nat},(∀ i,i<k->l.getD i 0=m.getD i 0)->ends l k=ends m k
 | 0,_=>rfl
 | k+1,h=>by rw[lx,lx,sc λi hi=>h i om,h k om]
theorem yp {t:Tbl}{l:List Int}{k:Nat}(h:k<=l.length):(acts t l).getD k 0=CH t l k:=by
 rw[aK (by rw[dW];omega)];simp[acts]
theorem wx (N:List (List Int)) (l:List Int) (n:Nat):∀ k,k<=n->stL N (l.take n) k=stL N l k
 | 0,_=>rfl
 | k+1,h=>by
  simp only[stL];rw[wx N l n k om];congr 1;simp only[List.getD];rw[List.getElem?_take_of_lt om]
theorem one_B:(List.range cl1.length).all (λc=>Nat.ble (Do RN1 c).length 1)=true:=by kernel_rfl
theorem one_at {c x y:Nat}(hc:c<cl1.length) (hx:x∈Do RN1 c) (hy:y∈Do RN1 c):x=y:=by
 have h:=kD (List.all_eq_true.1 one_B c (List.mem_range.2 hc))
 match e:Do RN1 c with
 | []=>rw[e] at hx;cases hx
 | [a]=>rw[e] at hx hy;simp at hx hy;omega
 | _::_::_=>rw[e] at h;simp at h
theorem Gq {l:List Int}(hc:CL l cl1.length){n k:Nat}(hn:n<=l.length) (hk:k<n):CH t1 (l.take n) k=CH t1 l k:=by
 letI:=gtR;have hlen:(l.take n).length=n:=by rw[List.length_take];omega
 have hc2:CL (l.take n) cl1.length:=λi h=>by rw[List.getElem_take];exact hc i om
 obtain⟨c,e⟩:∃ c:Nat,l[k]'(by omega)=(c:Int):=⟨(l[k]'(by omega)).toNat,by have:=hc k om;omega⟩;have hcl:c<cl1.length:=by have:=(hc k om).2;omega
 obtain⟨x,m1,e1⟩:=t6 tv1.1 hc (by omega:k<l.length) e;obtain⟨y,m2,e2⟩:=t6 tv1.1 hc2 (by omega:k<(l.take n).length) (by rw[List.getElem_take];exact e);have:=one_at hcl m1 m2
 subst this;unfold CH;rw[wx _ _ _ _ om];rw[t1];rw[e1,e2]
theorem Ca {p:Prp}{text:List Int}{k:Nat}(hk:k<=(kc p t1 text).length):kc p t1 (text.take (b6 0 (kc p t1 text) k).toNat)=(kc p t1 text).take k:=by
 letI:=gtR;have hch:=BJ (p:=p) (text:=text) tv1.1;have hle:=dG k hch
 have hA:∀ text:List Int,kc p t1 text=btw 0 (ends (acts t1 (ak p t1.classes text)) (text.length+1)++[(text.length:Int)]):=λtext=>by
  rw[kc,if_pos tv1.1,yh,j7,if_pos tv1.1,dW];simp[ak]
 have hP:=hA text;have hCL:CL (ak p t1.classes text) cl1.length:=r4 (t:=t1) tv1.1;have hnl:(ak p t1.classes text).length=text.length:=by simp[ak]
 have hsrt:(0::(ends (acts t1 (ak p t1.classes text)) (text.length+1)++[(text.length:Int)])).Pairwise (·<=·):=by
  have:=Bq (A:=acts t1 (ak p t1.classes text)) (n:=text.length) (by rw[dW,hnl])
  rwa [show(acts t1 (ak p t1.classes text)).length=text.length+1 by rw[dW,hnl]] at this
 have hT:=s7 _ 0 k hsrt (by rw[<-hP];exact hk);rw[<-hP] at hT;generalize hen:(b6 0 (kc p t1 text) k).toNat=en at *;have hee:b6 0 (kc p t1 text) k=(en:Int):=by omega
 have hcm:(text.take en).length=en:=by rw[List.length_take];omega
 have hnm:ak p t1.classes (text.take en)=(ak p t1.classes text).take en:=by simp[ak,List.map_take]
 rw[hT,hee,hA (text.take en),hcm,hnm,u4,jj (b:=[(text.length:Int)]) (by simp;omega),List.append_nil];rw[show text.length+1=en+(text.length+1-en) by omega,qJ,lx]
 have hcg:ends (acts t1 ((ak p t1.classes text).take en)) en=ends (acts t1 (ak p t1.classes text)) en:=sc λi hi=>by
  rw[yp (by rw[List.length_take];omega),yp om,Gq hCL om hi]
 rw[hcg];split
 ·exact wT _ _ _
 ·rw[List.append_nil]
end Go.Proofs.YtbmdndckndnehaaGreatDoor
