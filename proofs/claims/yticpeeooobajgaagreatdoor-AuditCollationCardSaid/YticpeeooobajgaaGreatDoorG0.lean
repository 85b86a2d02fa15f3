/-
  Contracts of functions over data: properties.
-/
import Derived.Test.YticpeeooobajgaaGreatDoorC0
import Derived.Test.YticpeeooobajgaaGreatDoorAmF
set_option linter.unusedSectionVars false
namespace Go.Proofs.YticpeeooobajgaaGreatDoor
section
open Go Go.Am Classical
set_option maxRecDepth 100000
variable [GT]
structure Spn where
 lo:Int
 hi:Int
 val:Int
 deriving Inhabited
abbrev spnC (s:Spn):List D:=[i64 s.lo,i64 s.hi,i64 s.val]
abbrev cB (l:List Spn):D:=lstS spnC l
theorem aO (l:List Spn):aL (cB l)=true:=ef (λ_=>rfl) l
theorem iA {n:Int}:Pu Tryz.prog 168 [i64 n] (boo (decide (0<=n∧n<=1114111))):=by
 refine pv Tryz.func168 ?_;repeat' ((conv=>whnf);first|exact kQ|(refine bk ?_ ?_<;>intro _<;>try(exfalso;omega))|refine stq ?_)
 all_goals(conv=>whnf)
 all_goals first
  | exact aI.yes om
  | exact aI.no om
end
section
open Go Go.Am Classical
set_option maxRecDepth 100000
theorem xG1.rdX {p:Prop}(h:p:=by first|exact Rd.int em|exact Rd.frzp rfl rfl (Rds.cons (Rd.same (aO _)) Rds.nil)|exact Rd.frzp rfl rfl (Rds.cons (Rd.same rfl) Rds.nil)|exact Rd.same (by first|(simp[aL,aJ,hc];done)|fail)|exact Rd.int (by first|(rw[em];omega;done)|fail)|fail):p:=h
theorem xG1.rbX {p:Prop}(h:p:=by first|exact Rb.cells (Rds.eqs (uj _) (fG (λ_=>rfl) rfl)) rfl|exact Rb.cells (Rds.eqs (A5 om) (aN (λ_=>rfl) _)) rfl|exact Rb.cells (by first|(rw[hcp];exact Rds.same (by first|(simp only[ct,aJ,kw,aO,Bool.and_self];done)|fail);done)|fail) rfl|exact Rb.cells (by first|(rw[hcp];exact Rds.cons (Rd.frz rfl rfl (kD rfl) (Rds.cons (Rd.same rfl) Rds.nil)) (Rds.cons Rd.nil Rds.nil);done)|fail) rfl|exact Rb.map (Res.eqs (by first|(rw[kE om];done)|fail) (mX _ _))|exact Rb.cells (Rds.eqs (by first|(rw[<-pK om];simp[idxI,hm];done)|fail) (fG (λ_=>rfl) rfl)) rfl|exact Rb.cells (Rds.eqs (by first|(rw[<-pK om];simp only[idxI,hm,if_false];rfl;done)|fail) (fG (λ_=>rfl) rfl)) rfl|exact Rb.cells (Rds.eqs (by first|(rw[<-pK om];rfl;done)|fail) (fG (λ_=>rfl) rfl)) rfl|fail):p:=h
open xG1
variable [GT]
def other:Str:=[79,116,104,101,114]
def aK:List Spn->Int->Int
 | [],_=>0
 | s::l,c=>if s.lo<=c∧c<=s.hi then s.val else aK l c
def idxI (l:List Str) (s:Str):Int:=if s∈l then l.idxOf s else 0
theorem zu {n s:Nat}{g:FuncId}{cap:List D}{p:Nat->Prop}(hc:aJ cap=true) (hn:n<=4611686018427387903) (hs:s<=n) (h1:∀ i,i<s->¬p i) (h2:∀ i,s<=i->i<n->p i)
  (hf:∀ i:Nat,i<n->Pu Tryz.prog g ([i64 i]++cap) (boo (decide (p i)))):Pu Tryz.prog 201 [i64 n,.fn (.func g) [] cap] (i64 s):=by
 refine Pu.of_v aA T0 Tryz.func201 rfl rfl (by simp[aL,aJ,hc]) ?_;repeat' ((conv=>whnf);first|exact kQ|(refine bk ?_ ?_<;>intro _<;>try(exfalso;omega))|refine stq ?_)
 refine aH.by2 aA T0 (λi j:Nat=>⟨tmp 26 [(1,.fn (.func g) [] cap),(5,i64 i),(6,i64 j)],⟨0,[]⟩⟩)
  (λi j=>i<=s∧s<=j∧j<=n) (λi j=>j-i) 0 n ⟨by omega,by omega,by omega⟩ ?_ ?_
 ·exact lq0
 intro i j ⟨h3,h4,h5⟩
 have em:IntKind.i64.wrap ((IntKind.u64.wrap ((i:Int)+(j:Int))).fdiv (2 ^ min (Int.toNat 1) IntKind.u64.bits))=(((i+j) / 2:Nat):Int):=by
  have e1:IntKind.u64.wrap ((i:Int)+(j:Int))=(i:Int)+(j:Int):=by
   simp[IntKind.wrap,IntKind.bits,IntKind.signed];omega
  rw[e1,Int.fdiv_eq_ediv_of_nonneg _ (by decide)];simp[IntKind.wrap,IntKind.bits,IntKind.signed];omega
 repeat' ((conv=>whnf);first|exact kQ|(refine bk ?_ ?_<;>intro _<;>try(exfalso;omega))|refine stq ?_|refine cd (p:=p ((i+j) / 2)) (by rw[em];exact hf _ om) (λ_=>?_) (λ_=>?_)|refine Chk.mk (gM (by rw[em];omega) (by rw[em];omega)) ?_)
 all_goals(conv=>whnf)
 all_goals first
  | exact aI.int om
  | (refine⟨i,(i+j) / 2,⟨by omega,Nat.le_of_not_lt λhlt=>h1 _ hlt asm,by omega⟩,by omega,?_⟩
     exact lq0)
  | (refine⟨(i+j) / 2+1,j,⟨Nat.succ_le_of_lt (Nat.lt_of_not_le λhle=>absurd (h2 _ hle om) asm),by omega,by omega⟩,by omega,?_⟩
     exact lq0)
def ic (l:List Spn):Prop:=∀ i (h:i<l.length),l[i].lo<=l[i].hi∧∀ h0:i≠0,(l[i-1]'(by omega)).hi<l[i].lo
theorem rW {l:List Spn}(h:ic l){i:Nat}(j:Nat) (hi:i<l.length) (hj:i+j<l.length):l[i].hi<=l[i+j].hi:=by
 induction j with
 | zero=>exact Int.le_refl _
 | succ j ih=>
  have h1:=ih om;have h2:=h (i+(j+1)) hj;have h3:=h2.2 om;have h4:=h2.1;have e:i+(j+1)-1=i+j:=by omega
  simp only[e] at h3;omega
theorem ql {l:List Spn}{c:Int}(h:∀ i (h:i<l.length),¬(l[i].lo<=c∧c<=l[i].hi)):aK l c=0:=by
 induction l with
 | nil=>rfl
 | cons s l ih=>
  simp only[aK];rw[if_neg (show ¬(s.lo<=c∧c<=s.hi) from h 0 si)];exact ih λi hi=>h (i+1) (by simpa using hi)
theorem Cn {l:List Spn}{c:Int}{s:Nat}(hs:s<l.length) (h:∀ i (hi:i<l.length),i<s->¬(l[i].lo<=c∧c<=l[i].hi)) (h2:l[s].lo<=c∧c<=l[s].hi):aK l c=l[s].val:=by
 induction l generalizing s with
 | nil=>simp at hs
 | cons x l ih=>
  simp only[aK];cases s with
  | zero=>rw[if_pos (show x.lo<=c∧c<=x.hi from h2)];rfl
  | succ s=>
   rw[if_neg (show ¬(x.lo<=c∧c<=x.hi) from h 0 si om)];exact ih (s:=s) (by simpa using hs) (λi hi hlt=>h (i+1) (by simpa using hi) om) h2
noncomputable def ah (l:List Spn) (c:Int):Nat:=l.findIdx λs=>decide (c<=s.hi)
theorem pH (l:List Spn) (c:Int):ah l c<=l.length:=List.findIdx_le_length
theorem fJ {l:List Spn}{c:Int}{i:Nat}(h:i<l.length) (hlt:i<ah l c):¬c<=l[i].hi:=by
 have:=List.not_of_lt_findIdx hlt
 simpa using this
theorem kz {l:List Spn}{c:Int}(h:ah l c<l.length):c<=l[ah l c].hi:=by
 have:=List.findIdx_getElem (p:=λs:Spn=>decide (c<=s.hi)) (w:=h)
 exact of_decide_eq_true this
theorem pF {l:List Spn}(hr:ic l) (c:Int):aK l c=if h:ah l c<l.length then(if l[ah l c].lo<=c then l[ah l c].val else 0) else 0:=by
 split
 ·rename_i hs;have h1:=kz hs;split
  ·rename_i h2;exact Cn hs (λi hi hlt=>by have:=fJ hi hlt;omega) ⟨h2,h1⟩
  ·rename_i h2;refine ql λi hi=>?_
   rcases Nat.lt_trichotomy i (ah l c) with hlt|he|hgt
   ·have:=fJ hi hlt;omega
   ·subst he;omega
   ·have h3:=rW hr (i-1-ah l c) hs om;have h4:=(hr i hi).2 om;have e:ah l c+(i-1-ah l c)=i-1:=by omega
    simp only[e] at h3;omega
 ·rename_i hs;refine ql λi hi=>?_
  have:=fJ (c:=c) hi om
  omega
end
section
open Go Go.Am Classical
set_option maxRecDepth 100000
abbrev bl (a b:Str):Bool:=Op.bytesLess a b
theorem uZ:∀ {a b c:Str},bl a b=true->bl b c=true->bl a c=true
 | _,[],_,h,_=>by simp[bl,Op.bytesLess] at h
 | _,_::_,[],_,h=>by simp[bl,Op.bytesLess] at h
 | [],_::_,_::_,_,_=>by simp[bl,Op.bytesLess]
 | x::a,y::b,z::c,h1,h2=>by
  simp only[bl,Op.bytesLess,kN,kC,decide_eq_true_eq,beq_iff_eq] at *;rcases h1 with h1|⟨rfl,h1⟩
  ·rcases h2 with h2|⟨rfl,_⟩
   ·exact .inl (UInt8.lt_trans h1 h2)
   ·exact .inl h1
  ·rcases h2 with h2|⟨rfl,h2⟩
   ·exact .inl h2
   ·exact .inr ⟨rfl,uZ h1 h2⟩
structure Mpg where
 frm:Int
 to:List Int
 tag:Str
 deriving Inhabited
def bef (a b:Mpg):Prop:=a.frm<b.frm∨(a.frm=b.frm∧bl a.tag b.tag=true)
theorem yv {a b c:Mpg}(h1:bef a b) (h2:bef b c):bef a c:=by
 unfold bef at *;rcases h1 with h1|⟨e1,h1⟩<;>rcases h2 with h2|⟨e2,h2⟩
 ·exact .inl om
 ·exact .inl om
 ·exact .inl om
 ·exact .inr ⟨by omega,uZ h1 h2⟩
def sA (a b:Str):Int:=if bl a b=true then -1 else if a=b then 0 else 1
def BH (a b:Mpg):Int:=if dF a.frm b.frm=0 then sA a.tag b.tag else dF a.frm b.frm
theorem xL {a b:Mpg}:BH a b<0↔bef a b:=by
 unfold BH sA dF bef;by_cases h1:a.frm<b.frm
 ·simp[h1]
 ·by_cases h2:b.frm<a.frm
  ·simp[h1,h2];omega
  ·have e:a.frm=b.frm:=by omega
   simp only[e,if_true,if_false,Int.lt_irrefl,false_or,true_and];by_cases h3:bl a.tag b.tag=true
   ·simp[h3]
   ·simp only[h3];by_cases h4:a.tag=b.tag
    ·simp[h4]
    ·simp[h4]
def cpQ (n:Int):Prop:=0<=n∧n<=1114111
def mr (m:Mpg):Prop:=cpQ m.frm∧∀ j (h:j<m.to.length),cpQ m.to[j]
def B6 (m:Mpg):Prop:=m.tag=[]∨AJ m.tag
def Asc (l:List Mpg):Prop:=∀ i (h:i<l.length),∀ h0:i≠0,bef (l[i-1]'(by omega)) l[i]
theorem Asc.lt {l:List Mpg}(h:Asc l):∀ (d i:Nat) (hi:i+d+1<l.length),bef (l[i]'(by omega)) l[i+d+1]
 | 0,i,hi=>by have:=h (i+1) hi om;simpa using this
 | d+1,i,hi=>yv (Asc.lt h d i om) (h (i+d+1+1) hi om)
noncomputable def fO (l:List Mpg):Int:=
 if ∀ i (h:i<l.length),mr l[i] then(if ∀ i (h:i<l.length),l[i].to.length<=64 then(if ∀ i (h:i<l.length),B6 l[i] then 0 else 6) else 2) else 1
def MOk (l:List Mpg):Prop:=fO l=0∧Asc l
end
section
set_option maxRecDepth 100000
structure Rng where
 lo:Int
 hi:Int
 deriving DecidableEq
def InR (l:List Rng) (c:Int):Prop:=∃ r,r∈l∧r.lo<=c∧c<=r.hi
def Canon:Int->List Rng->Prop
 | _,[]=>True
 | b,r::l=>b<r.lo∧r.lo<=r.hi∧r.hi<=1114111∧Canon (r.hi+1) l
theorem InR.cons {r:Rng}{l:List Rng}{c:Int}:InR (r::l) c↔(r.lo<=c∧c<=r.hi)∨InR l c:=by
 constructor
 ·rintro⟨q,hq,h⟩;rcases List.mem_cons.1 hq with rfl|hq
  ·exact .inl h
  ·exact .inr ⟨q,hq,h⟩
 ·rintro(h|⟨q,hq,h⟩)
  ·exact⟨r,List.mem_cons_self,h⟩
  ·exact⟨q,List.mem_cons_of_mem _ hq,h⟩
theorem InR.nil {c:Int}:¬InR [] c:=by rintro⟨_,h,_⟩;cases h
theorem InR.app {a b:List Rng}{c:Int}:InR (a++b) c↔InR a c∨InR b c:=by
 induction a with
 | nil=>simp[InR.nil]
 | cons r a ih=>rw[List.cons_append,InR.cons,InR.cons,ih,or_assoc]
theorem Canon.above:∀ {l:List Rng}{b c:Int},Canon b l->InR l c->b<c
 | [],_,_,_,h=>absurd h InR.nil
 | r::l,b,c,⟨h1,h2,_,h4⟩,h=>by
  rcases InR.cons.1 h with h|h
  ·omega
  ·have:=Canon.above h4 h
   omega
theorem Canon.unique:∀ {l m:List Rng}{b:Int},Canon b l->Canon b m->(∀ c,InR l c↔InR m c)->l=m
 | [],[],_,_,_,_=>rfl
 | [],q::m,_,_,⟨_,h2,_⟩,h=>absurd ((h q.lo).2 (InR.cons.2 (.inl ⟨Int.le_refl _,h2⟩))) InR.nil
 | r::l,[],_,⟨_,h2,_⟩,_,h=>absurd ((h r.lo).1 (InR.cons.2 (.inl ⟨Int.le_refl _,h2⟩))) InR.nil
 | r::l,q::m,b,⟨a1,a2,a3,a4⟩,⟨b1,b2,b3,b4⟩,h=>by
  have e1:r.lo=q.lo:=by
   have x1:=InR.cons.1 ((h r.lo).1 (InR.cons.2 (.inl ⟨Int.le_refl _,a2⟩)));have x2:=InR.cons.1 ((h q.lo).2 (InR.cons.2 (.inl ⟨Int.le_refl _,b2⟩)))
   have y1:q.lo<=r.lo:=by
    rcases x1 with x|x
    ·omega
    ·have:=Canon.above b4 x;omega
   have y2:r.lo<=q.lo:=by
    rcases x2 with x|x
    ·omega
    ·have:=Canon.above a4 x;omega
   omega
  have e2:r.hi=q.hi:=by
   have y1:q.hi<=r.hi:=by
    by_cases hx:q.hi<=r.hi
    ·exact hx
    ·have x:=InR.cons.1 ((h (r.hi+1)).2 (InR.cons.2 (.inl ⟨by omega,by omega⟩)));rcases x with x|x
     ·omega
     ·have:=Canon.above a4 x;omega
   have y2:r.hi<=q.hi:=by
    by_cases hx:r.hi<=q.hi
    ·exact hx
    ·have x:=InR.cons.1 ((h (q.hi+1)).1 (InR.cons.2 (.inl ⟨by omega,by omega⟩)));rcases x with x|x
     ·omega
     ·have:=Canon.above b4 x;omega
   omega
  have er:r=q:=by
   cases r;cases q;simp only at e1 e2;subst e1;subst e2;rfl
  subst er;rw[Canon.unique a4 b4 λc=>?_];constructor
  ·intro hc;rcases InR.cons.1 ((h c).1 (InR.cons.2 (.inr hc))) with x|x
   ·have:=Canon.above a4 hc;omega
   ·exact x
  ·intro hc;rcases InR.cons.1 ((h c).2 (InR.cons.2 (.inr hc))) with x|x
   ·have:=Canon.above b4 hc;omega
   ·exact x
def po (l:List Rng):Prop:=Canon (-1) l
theorem po.iff {l m:List Rng}(hm:po m) (hc:∀ c,0<=c->c<=1114111->(InR m c↔InR l c)):l=m↔po l:=by
 refine⟨λe=>by rw[e];exact hm,λhl=>Canon.unique hl hm λc=>?_⟩;by_cases h:0<=c∧c<=1114111
 ·exact(hc c h.1 h.2).symm
 ·have up:∀ {k:List Rng} {b:Int},Canon b k->InR k c->c<=1114111:=λ{k}=>by
   induction k with
   | nil=>intro b _ hx;exact absurd hx InR.nil
   | cons r k ih=>
    intro b hk hx;obtain⟨_,_,h3,h4⟩:=hk;rcases InR.cons.1 hx with x|x
    ·omega
    ·exact ih h4 x
  constructor
  ·intro hx;have:=Canon.above hl hx
   have:=up hl hx
   omega
  ·intro hx;have:=Canon.above hm hx
   have:=up hm hx
   omega
end
section
set_option maxRecDepth 100000
def zb:Int->List Rng->Int
 | b,[]=>b
 | _,r::l=>zb (r.hi+1) l
theorem qU:∀ (l:List Rng) (b:Int) (r:Rng),zb b (l++[r])=r.hi+1
 | [],_,_=>rfl
 | _::l,_,r=>qU l _ r
theorem Canon.snoc:∀ {l:List Rng}{b:Int}{r:Rng},Canon b (l++[r])↔Canon b l∧zb b l<r.lo∧r.lo<=r.hi∧r.hi<=1114111
 | [],b,r=>by simp[Canon,zb]
 | q::l,b,r=>by
  rw[List.cons_append];simp only[Canon,zb];rw[Canon.snoc (l:=l)];simp only[and_assoc]
theorem InR.one {r:Rng}{c:Int}:InR [r] c↔r.lo<=c∧c<=r.hi:=by
 rw[InR.cons];exact⟨λh=>h.elim id λh=>absurd h InR.nil,.inl⟩
def mrg:List Rng->List Rng->List Rng
 | out,[]=>out
 | out,r::l=>match out.getLast? with
  | none=>mrg (out++[r]) l
  | some o=>if r.lo<=o.hi+1 then mrg (out.dropLast++[⟨o.lo,max o.hi r.hi⟩]) l else mrg (out++[r]) l
theorem nj:∀ (l out:List Rng),(l.Pairwise λa b=>a.lo<=b.lo)->(∀ r,r∈l->0<=r.lo∧r.lo<=r.hi∧r.hi<=1114111) ->
  Canon (-1) out->(∀ o,out.getLast?=some o->∀ r,r∈l->o.lo<=r.lo) ->
  Canon (-1) (mrg out l)∧∀ c,InR (mrg out l) c↔InR out c∨InR l c
 | [],out,_,_,hc,_=>⟨hc,λc=>⟨.inl,λh=>h.elim id λh=>absurd h InR.nil⟩⟩
 | r::l,out,hp,hv,hc,hl=>by
  obtain⟨hp1,hp2⟩:=List.pairwise_cons.1 hp;have hr:=hv r List.mem_cons_self;have hv':∀ q,q∈l->0<=q.lo∧q.lo<=q.hi∧q.hi<=1114111:=λq hq=>hv q (List.mem_cons_of_mem _ hq)
  rcases List.eq_nil_or_concat out with rfl|⟨pre,o,rfl⟩
  ·have:=nj l [r] hp2 hv' ⟨by omega,hr.2.1,hr.2.2,trivial⟩ λo ho q hq=>by
    simp only[List.getLast?_singleton,Option.some.injEq] at ho;subst ho;exact hp1 q hq
   refine⟨this.1,λc=>?_⟩;show InR (mrg [r] l) c↔_;rw[this.2 c,InR.one,InR.cons];exact⟨λh=>.inr h,λh=>h.elim (λh=>absurd h InR.nil) id⟩
  ·rw[List.concat_eq_append] at hc hl ⊢;obtain⟨h1,h2,h3,h4⟩:=Canon.snoc.1 hc;have ho:=hl o (by simp) r List.mem_cons_self;show Canon (-1) (mrg (pre++[o]) (r::l))∧_;simp only[mrg,List.getLast?_concat,List.dropLast_concat];split
   ·rename_i ht
    have:=nj l (pre++[⟨o.lo,max o.hi r.hi⟩]) hp2 hv' (Canon.snoc.2 ⟨h1,h2,by show o.lo<=max o.hi r.hi;omega,by show max o.hi r.hi<=1114111;omega⟩) λq hq x hx=>by
     simp only[List.getLast?_concat,Option.some.injEq] at hq;subst hq;exact hl o (by simp) x (List.mem_cons_of_mem _ hx)
    refine⟨this.1,λc=>?_⟩;rw[this.2 c,InR.app,InR.app,InR.one,InR.one,InR.cons];show(_∨(o.lo<=c∧c<=max o.hi r.hi))∨_↔_;constructor
    ·rintro((h|h)|h)
     ·exact .inl (.inl h)
     ·by_cases hx:c<=o.hi
      ·exact .inl (.inr ⟨h.1,hx⟩)
      ·exact .inr (.inl ⟨by omega,by omega⟩)
     ·exact .inr (.inr h)
    ·rintro((h|h)|(h|h))
     ·exact .inl (.inl h)
     ·exact .inl (.inr ⟨h.1,by omega⟩)
     ·exact .inl (.inr ⟨by omega,by omega⟩)
     ·exact .inr h
   ·rename_i ht
    have:=nj l ((pre++[o])++[r]) hp2 hv' (Canon.snoc.2 ⟨hc,by rw[qU];omega,hr.2.1,hr.2.2⟩) λq hq x hx=>by
     simp only[List.getLast?_concat,Option.some.injEq] at hq;subst hq;exact hp1 x hx
    refine⟨this.1,λc=>?_⟩;rw[this.2 c,InR.app (b:=[r]),InR.one,InR.cons,or_assoc]
def jO (l:List Int) (n:Int):List Int:=l.filter (λx=>decide (x<n))++n::l.filter (λx=>decide (n<x))
end
section
set_option maxRecDepth 100000
def hasB (rs:List Rng) (c:Int):Bool:=decide (0<=c∧c<=1114111)&&rs.any λr=>decide (r.lo<=c∧c<=r.hi)
def iX (r:Rng):Rng:=⟨max r.lo 0,min r.hi 1114111⟩
def dC (l:List Rng):List Rng:=(l.map iX).filter λr=>decide (r.lo<=r.hi)
theorem qb {l s:List Rng}(hp:s.Perm (dC l)) (hs:s.Pairwise λa b=>a.lo<=b.lo) :
  po (mrg [] s)∧∀ c,0<=c->c<=1114111->(InR (mrg [] s) c↔InR l c):=by
 have hmem:∀ r,r∈s↔(∃ q,q∈l∧iX q=r)∧r.lo<=r.hi:=λr=>by
  rw[hp.mem_iff,dC,List.mem_filter,List.mem_map,decide_eq_true_eq]
 have:=nj s [] hs (λr hr=>by
  obtain⟨⟨q,_,rfl⟩,h⟩:=(hmem r).1 hr;simp only[iX] at h ⊢
  omega) trivial (λo ho=>by cases ho)
 refine⟨this.1,λc h1 h2=>?_⟩;rw[this.2 c];constructor
 ·rintro(h|⟨r,hr,ha,hb⟩)
  ·exact absurd h InR.nil
  ·obtain⟨⟨q,hq,rfl⟩,_⟩:=(hmem r).1 hr;simp only[iX] at ha hb;exact⟨q,hq,by omega,by omega⟩
 ·rintro⟨q,hq,ha,hb⟩;refine .inr ⟨iX q,(hmem _).2 ⟨⟨q,hq,rfl⟩,?_⟩,?_,?_⟩<;>simp only[iX]<;>omega
theorem yH {l s:List Rng}(hp:s.Perm (dC l)) (hs:s.Pairwise λa b=>a.lo<=b.lo):l=mrg [] s↔po l:=
 po.iff (qb hp hs).1 (qb hp hs).2
end
section
set_option maxRecDepth 100000
section
variable {α:Type}(lt:α->α->Bool) (z:α)
def rM (l:List α) (j:Nat):List α:=(l.set (j+1) (l.getD j z)).set j (l.getD (j+1) z)
def ru:List α->Nat->List α
 | l,0=>l
 | l,j+1=>if lt (l.getD (j+1) z) (l.getD j z)=true then ru (rM z l j) j else l
def mi (l:List α):Nat->List α
 | 0=>l
 | i+1=>ru lt z (mi l i) (i+1)
def gA (l:List α):List α:=mi lt z l (l.length-1)
@[simp] theorem swpG_len (l:List α) (j:Nat):(rM z l j).length=l.length:=by simp[rM]
@[simp] theorem innG_len:∀ (j:Nat) (l:List α),(ru lt z l j).length=l.length
 | 0,l=>rfl
 | j+1,l=>by
  unfold ru;split
  ·rw[innG_len j,swpG_len]
  ·rfl
@[simp] theorem insG_len (l:List α):∀ i,(mi lt z l i).length=l.length
 | 0=>rfl
 | i+1=>by simp[mi,insG_len l i]
@[simp] theorem srtG_len (l:List α):(gA lt z l).length=l.length:=by simp[gA]
theorem B7 (A:List α) (y x:α) (R:List α):rM z (A++y::x::R) A.length=A++x::y::R:=by
 induction A with
 | nil=>simp[rM]
 | cons a A ih=>
  simp only[rM,List.cons_append,List.length_cons,List.getD_cons_succ,List.set_cons_succ] at ih ⊢;rw[ih]
theorem A4 (A:List α) (x:α) (R:List α):(A++x::R).getD A.length z=x:=by simp
theorem yZ (A:List α) (y x:α) (R:List α):(A++y::x::R).getD (A.length+1) z=x:=by
 simp
variable {le:α->α->Prop}(h1:∀ a b,lt a b=true->le a b) (h2:∀ a b,lt a b=false->le b a) (tr:∀ a b c,le a b->le b c->le a c)
include h1 h2 tr
theorem Ay:∀ (n:Nat) (A:List α) (x:α) (R:List α),A.length=n->A.Pairwise le->∃ B,ru lt z (A++x::R) n=B++R∧B.Perm (x::A)∧B.Pairwise le:=by
 intro n
 induction n with
 | zero=>
  intro A x R hA _
  have:A=[]:=List.eq_nil_of_length_eq_zero hA
  subst this;exact⟨[x],rfl,List.Perm.refl _,by simp⟩
 | succ n ih=>
  intro A x R hA hs;obtain⟨A',y,rfl⟩:∃ A' y,A=A' ++ [y]:=⟨A.dropLast,A.getLast (by rintro rfl;simp at hA),(List.dropLast_concat_getLast _).symm⟩;have hn:A'.length=n:=by simpa using hA
  rw[List.pairwise_append] at hs;obtain⟨s1,_,s3⟩:=hs;have s4:∀ a,a∈A'->le a y:=λa ha=>s3 a ha y (by simp)
  rw[List.append_assoc,List.singleton_append];unfold ru;rw[<-hn,A4,yZ];by_cases hc:lt x y=true
  ·rw[if_pos hc,B7,hn]
   -- x moves down through A',y is the first of what stays behind
   obtain⟨B,e,p,s⟩:=ih A' x (y::R) hn s1;refine⟨B++[y],by rw[e];simp,?_,?_⟩
   ·have q1:(B++[y]).Perm ((x::A')++[y]):=p.append_right [y];simpa using q1
   ·rw[List.pairwise_append];refine⟨s,by simp,λa ha b hb=>?_⟩;simp only[List.mem_singleton] at hb;subst hb;rcases List.mem_cons.1 (p.mem_iff.1 ha) with rfl|ha
    ·exact h1 _ _ hc
    ·exact s4 a ha
  ·rw[if_neg hc];refine⟨A' ++ [y,x],by simp,?_,?_⟩
   ·have q:(A' ++ [y,x]).Perm ([y,x]++A'):=List.perm_append_comm;have q2:([y,x]++A').Perm (x::(y::A')):=by simpa using List.Perm.swap x y A'
    have q3:(y::A').Perm (A' ++ [y]):=(List.perm_append_comm (l₁:=[y]) (l₂:=A'));exact(q.trans q2).trans (q3.cons x)
   ·have hxy:le y x:=h2 x y (by simpa using hc);rw[List.pairwise_append];refine⟨s1,by simp[hxy],λa ha b hb=>?_⟩;rcases List.mem_cons.1 hb with rfl|hb
    ·exact s4 a ha
    ·simp only[List.mem_singleton] at hb;subst hb;exact tr _ _ _ (s4 a ha) hxy
theorem t4 (l:List α):∀ i,i<l.length->∃ B,mi lt z l i=B++l.drop (i+1)∧B.Perm (l.take (i+1))∧B.Pairwise le
 | 0,hi=>by
  obtain⟨a,l',rfl⟩:∃ a l',l=a::l':=by cases l with|nil=>simp at hi|cons a l'=>exact⟨a,l',rfl⟩
  exact⟨[a],by simp[mi],by simp,by simp⟩
 | i+1,hi=>by
  obtain⟨B,e,p,s⟩:=t4 l i (by omega);have hd:l.drop (i+1)=l[i+1]::l.drop (i+1+1):=List.drop_eq_getElem_cons hi;have hB:B.length=i+1:=by rw[p.length_eq];simp;omega
  obtain⟨B',e',p',s'⟩:=Ay lt z h1 h2 tr (i+1) B l[i+1] (l.drop (i+1+1)) hB s;refine⟨B',by rw[mi,e,hd];exact e',?_,s'⟩;rw[show l.take (i+1+1)=l.take (i+1)++[l[i+1]] from(List.take_append_getElem hi).symm];exact(p'.trans (p.cons _)).trans (List.perm_append_comm (l₁:=[l[i+1]]) (l₂:=l.take (i+1)))
theorem zo (l:List α):(gA lt z l).Perm l∧(gA lt z l).Pairwise le:=by
 by_cases hl:l=[]
 ·subst hl;exact⟨List.Perm.refl _,by simp[gA,mi]⟩
 ·have:0<l.length:=List.length_pos_iff.2 hl
  obtain⟨B,e,p,s⟩:=t4 lt z h1 h2 tr l (l.length-1) (by omega);rw[show l.length-1+1=l.length from by omega,List.take_length,List.drop_length,List.append_nil] at *;rw[gA,e];exact⟨p,s⟩
end
def yJ (a b:Rng):Int:=if a.lo<b.lo then -1 else if b.lo<a.lo then 1 else if a.hi<b.hi then -1 else if b.hi<a.hi then 1 else 0
def ltR (a b:Rng):Bool:=decide (yJ a b<0)
def zR:Rng:=⟨0,0⟩
theorem oQ (l:List Rng):(gA ltR zR l).Perm l∧(gA ltR zR l).Pairwise λa b=>a.lo<=b.lo:=by
 refine zo ltR zR (le:=λa b=>a.lo<=b.lo) (λa b h=>?_) (λa b h=>?_) (λa b c h k=>Int.le_trans h k) l
 ·have h:=of_decide_eq_true h;unfold yJ at h;split at h
  ·omega
  ·split at h<;>omega
 ·have h:=of_decide_eq_false h;unfold yJ at h;split at h
  ·omega
  ·omega
def mkR (l:List Rng):List Rng:=mrg [] (gA ltR zR (dC l))
theorem CT {l:List Rng}:l=mkR l↔po l:=yH (oQ _).1 (oQ _).2
end
section
open Go Go.Am Classical
set_option maxRecDepth 100000
variable [GT]
abbrev dK (r:Rng):List D:=[i64 r.lo,i64 r.hi]
abbrev dJ (l:List Rng):D:=lstS dK l
theorem cC (l:List Rng):aL (dJ l)=true:=ef (λ_=>rfl) l
abbrev mY (m:Mpg):List D:=[i64 m.frm,aE m.to,.str m.tag]
abbrev dY (l:List Mpg):D:=lstS mY l
theorem vR (m:Mpg):aJ (mY m)=true:=by simp[aJ,aL,aG]
theorem cD (l:List Mpg):aL (dY l)=true:=ef vR l
def ClQ (l:List Spn) (i:Nat) (s:Spn):Prop:=(0<=s.lo∧s.lo<=s.hi∧s.hi<=1114111∧1<=s.val∧s.val<=254) ∧
 (i≠0->(l.getD (i-1) default).hi<s.lo∧¬(s.lo=(l.getD (i-1) default).hi+1∧s.val=(l.getD (i-1) default).val))
def ClV (l:List Spn):Prop:=∀ i (h:i<l.length),ClQ l i l[i]
def SmM (l:List Mpg):Prop:=(∀ i (h:i<l.length),i<30->l[i].to.length<=65∧l[i].tag.length<=40)∧l.length<=20
def iz:List Int->Int
 | []=>0
 | e::l=>if e=0 then iz l else e
theorem xG:∀ {l:List Int}{k:Nat}(h:k<l.length),(∀ i (hi:i<l.length),i<k->l[i]=0)->l[k]≠0->iz l=l[k]
 | [],k,h,_,_=>by simp at h
 | e::l,0,_,_,h2=>by simp only[List.getElem_cons_zero] at h2 ⊢;rw[iz,if_neg h2]
 | e::l,k+1,h,h1,h2=>by
  have e0:e=0:=h1 0 si om;rw[iz,if_pos e0];simp only[List.getElem_cons_succ] at h2 ⊢;exact xG (by simpa using h) (λi hi hk=>by have:=h1 (i+1) (by simpa using hi) om;simpa using this) h2
theorem mo:∀ {l:List Int},iz l=0↔∀ i (hi:i<l.length),l[i]=0
 | []=>by simp[iz]
 | e::l=>by
  rw[iz];constructor
  ·intro h i hi;split at h
   ·rename_i e0;cases i with
    | zero=>simpa using e0
    | succ i=>simpa using mo.1 h i (by simpa using hi)
   ·rename_i e0;exact absurd h e0
  ·intro h;have e0:e=0:=h 0 si;rw[if_pos e0];exact mo.2 λi hi=>by have:=h (i+1) (by simpa using hi);simpa using this
end
section
open Go Go.Am Classical
set_option maxRecDepth 100000
theorem xG2.rdX {p:Prop}(h:p:=by first|exact Rd.sl' rfl sim sim|fail):p:=h
theorem xG2.rbX {p:Prop}(h:p:=by first|exact Rb.cells (Rds.eqs (ai (by intro _;rfl) (x::xs) _) (aC (by intro _;rfl) _)) rfl|fail):p:=h
open xG2
variable [GT]
theorem bU {α β:Type}{P:Program}(x:Sem α) (f:α->Sem β):aw P (x >>= f)=(aw P x).bind λa=>aw P (f a):=by
 show aw P (x.bind f)=_
 induction x with
 | pure a=>rfl
 | program k ih=>exact ih _
 | mark m k ih=>exact ih
 | _=>rfl
theorem mT {α β:Type}{P:Program}(x:Sem α) (f:α->β):aw P (f <$> x)=(aw P x).map f:=by
 rw[map_eq_pure_bind,bU];cases aw P x<;>rfl
theorem cR {α:Type}{P:Program}(a:α):aw P (pure a:Sem α)=some a:=rfl
theorem dh {P:Program}:aw P program=some P:=rfl
theorem dT {P:Program}{t:TypeId}{d:TypeDesc}(h:P.underlying t=some d):aw P (underlying t)=some d:=by
 simp only[underlying,bU,dh,Option.bind_some,h,cR]
theorem jN {P:Program}{d:Nat}{t:TypeId}{k:IntKind}{a b:Int}(h:P.underlying t=some (.int k)):aw P (Op.equalIn (d+1) t (.int .i64 a) (.int .i64 b))=some (a == b):=by
 simp[Op.equalIn,bU,dT h,cR]
theorem iK {P:Program}{t:TypeId}{k:IntKind}{cs:Array Value}{o:Nat}{v:Value}(h:P.underlying t=some (.int k)) (hv:cs[o]?=some v):aw P (part t cs o)=some v:=by
 simp[part,isAgg,bU,dT h,cR,hv]
theorem tN {P:Program}{d:Nat}{t:TypeId}{f0 f1:Field}{k:IntKind}{a b c e:Int}(h:P.underlying t=some (.struct #[f0,f1])) (hs:P.stoodInHeld t=false) (n0:f0.name ≠ "_") (n1:f1.name ≠ "_") (o0:f0.offset=0) (o1:f1.offset=1) (t0:P.underlying f0.type=some (.int k)) (t1:P.underlying f1.type=some (.int k)) :
  aw P (Op.equalIn (d+2) t (.agg #[.int .i64 a,.int .i64 b]) (.agg #[.int .i64 c,.int .i64 e]))=some (a == c&&b == e):=by
 rw[Op.equalIn];simp[bU,dT h,dh,hs,n0,n1,o0,o1,iK t0,jN t0];by_cases h1:a=c<;>by_cases h2:b=e<;>simp[h1,h2,bU,cR,iK t1,jN t1]
theorem Bd {P:Program}{t:TypeId}{f0 f1:Field}{k:IntKind}{a b c e:Int}{ox oy:Operand}(h:P.underlying t=some (.struct #[f0,f1])) (hs:P.stoodInHeld t=false) (n0:f0.name ≠ "_") (n1:f1.name ≠ "_") (o0:f0.offset=0) (o1:f1.offset=1) (t0:P.underlying f0.type=some (.int k)) (t1:P.underlying f1.type=some (.int k)) (hg:P.eqGuardType P.depth t=false) :
  bA P .neq t ox oy (.agg [i64 a,i64 b]) (.agg [i64 c,i64 e])=some (.v (.bool (!(a == c&&b == e)))):=by
 have e1:aw P (do eqGuard .neq t ox oy (.agg #[.int .i64 a,.int .i64 b]) (.agg #[.int .i64 c,.int .i64 e]);binOp .neq t (.agg #[.int .i64 a,.int .i64 b]) (.agg #[.int .i64 c,.int .i64 e]))=some (.bool (!(a == c&&b == e))):=by
  have e2:aw P (Op.equalIn 10000 t (.agg #[.int .i64 a,.int .i64 b]) (.agg #[.int .i64 c,.int .i64 e]))=some (a == c&&b == e):=tN (d:=9998) h hs n0 n1 o0 o1 t0 t1;simp[eqGuard,binOp,bU,dh,hg,Op.equal,Op.maxDepth,e2,cR,mT]
 have e3:bA P .neq t ox oy (.agg [i64 a,i64 b]) (.agg [i64 c,i64 e])=(match aw P (do eqGuard .neq t ox oy (.agg #[.int .i64 a,.int .i64 b]) (.agg #[.int .i64 c,.int .i64 e]);binOp .neq t (.agg #[.int .i64 a,.int .i64 b]) (.agg #[.int .i64 c,.int .i64 e])) with|some r=>ofV r|none=>none):=rfl;rw[e3,e1];rfl
theorem wh {a b c e:Int}{ox oy:Operand}:bA Tryz.prog .neq 204 ox oy (.agg [i64 a,i64 b]) (.agg [i64 c,i64 e])=some (.v (.bool (!(a == c&&b == e)))):=
 Bd (k:=.i64) rfl (by kernel_rfl) (by decide) (by decide) rfl rfl rfl rfl (by kernel_rfl)
theorem wg {x y:Rng}{ox oy:Operand}(h:¬x=y):bA Tryz.prog .neq 204 ox oy (.agg (dK x)) (.agg (dK y))=some (.v (.bool true)):=by
 rw[wh];cases x;cases y;simp at h;simp only[kA,D.v.injEq,Value.bool.injEq,Bool.not_eq_true',Bool.and_eq_false_imp,beq_iff_eq,beq_eq_false_iff_ne];exact h
theorem AP {x:Rng}{ox oy:Operand}:bA Tryz.prog .neq 204 ox oy (.agg (dK x)) (.agg (dK x))=some (.v (.bool false)):=by
 rw[wh];simp
end
end Go.Proofs.YticpeeooobajgaaGreatDoor
