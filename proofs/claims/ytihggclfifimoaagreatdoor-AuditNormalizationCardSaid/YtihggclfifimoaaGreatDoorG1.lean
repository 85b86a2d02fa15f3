/-
  Contracts of functions over data: the classes of elements.
-/
import Derived.Test.YtihggclfifimoaaGreatDoorC3
import Derived.Test.YtihggclfifimoaaGreatDoorH0
set_option linter.unusedSectionVars false
namespace Go.Proofs.YtihggclfifimoaaGreatDoor
open Go Go.Am Classical
set_option maxRecDepth 100000
section
theorem xG1.rdX {p:Prop}(h:p:=by first|exact Rd.int em|exact Rd.frzp rfl rfl (Rds.cons (Rd.same (aY _)) Rds.nil)|exact Rd.frzp rfl rfl (Rds.cons (Rd.same rfl) Rds.nil)|exact Rd.same (by first|(simp[aL,aK,hc];done)|fail)|exact Rd.int (by first|(rw[em];omega;done)|fail)|fail):p:=h
theorem xG1.rbX {p:Prop}(h:p:=by first|exact Rb.cells (Rds.eqs (xx _) (fd (λ_=>rfl) rfl)) rfl|exact Rb.cells (Rds.eqs (EO om) (aN (λ_=>rfl) _)) rfl|exact Rb.cells (by first|(rw[hcp];exact Rds.same (by first|(simp only[cU,aK,mC,aY,Bool.and_self];done)|fail);done)|fail) rfl|exact Rb.cells (by first|(rw[hcp];exact Rds.cons (Rd.frz rfl rfl (kD rfl) (Rds.cons (Rd.same rfl) Rds.nil)) (Rds.cons Rd.nil Rds.nil);done)|fail) rfl|exact Rb.map (Res.eqs (by first|(rw[kE om];done)|fail) (oC _ _))|exact Rb.cells (Rds.eqs (by first|(rw[<-rK om];simp[idxI,hm];done)|fail) (fd (λ_=>rfl) rfl)) rfl|exact Rb.cells (Rds.eqs (by first|(rw[<-rK om];simp only[idxI,hm,if_false];rfl;done)|fail) (fd (λ_=>rfl) rfl)) rfl|exact Rb.cells (Rds.eqs (by first|(rw[<-rK om];rfl;done)|fail) (fd (λ_=>rfl) rfl)) rfl|fail):p:=h
open xG1
variable [GT]
def other:Str:=[79,116,104,101,114]
def aJ:List Spn->Int->Int
 | [],_=>0
 | s::l,c=>if s.lo<=c∧c<=s.hi then s.val else aJ l c
theorem Bt {l:List Spn}{k:Nat}(h:k<l.length) (c:Int):aJ (l.drop k) c=if l[k].lo<=c∧c<=l[k].hi then l[k].val else aJ (l.drop (k+1)) c:=by
 rw[kK h];rfl
def idxI (l:List Str) (s:Str):Int:=if s∈l then l.idxOf s else 0
def lA (l:List Spn):Prop:=∀ i (h:i<l.length),l[i].lo<=l[i].hi∧∀ h0:i≠0,(l[i-1]'(by omega)).hi<l[i].lo
theorem zn {l:List Spn}(h:lA l){i:Nat}(j:Nat) (hi:i<l.length) (hj:i+j<l.length):l[i].hi<=l[i+j].hi:=by
 induction j with
 | zero=>exact Int.le_refl _
 | succ j ih=>
  have h1:=ih om;have h2:=h (i+(j+1)) hj;have h3:=h2.2 om;have h4:=h2.1;have e:i+(j+1)-1=i+j:=by omega
  simp only[e] at h3;omega
theorem sr {l:List Spn}{c:Int}(h:∀ i (h:i<l.length),¬(l[i].lo<=c∧c<=l[i].hi)):aJ l c=0:=by
 induction l with
 | nil=>rfl
 | cons s l ih=>
  simp only[aJ];rw[if_neg (show ¬(s.lo<=c∧c<=s.hi) from h 0 si)];exact ih λi hi=>h (i+1) (by simpa using hi)
theorem GL {l:List Spn}{c:Int}{s:Nat}(hs:s<l.length) (h:∀ i (hi:i<l.length),i<s->¬(l[i].lo<=c∧c<=l[i].hi)) (h2:l[s].lo<=c∧c<=l[s].hi):aJ l c=l[s].val:=by
 induction l generalizing s with
 | nil=>simp at hs
 | cons x l ih=>
  simp only[aJ];cases s with
  | zero=>rw[if_pos (show x.lo<=c∧c<=x.hi from h2)];rfl
  | succ s=>
   rw[if_neg (show ¬(x.lo<=c∧c<=x.hi) from h 0 si om)];exact ih (s:=s) (by simpa using hs) (λi hi hlt=>h (i+1) (by simpa using hi) om) h2
noncomputable def ax (l:List Spn) (c:Int):Nat:=l.findIdx λs=>decide (c<=s.hi)
theorem yz (l:List Spn) (c:Int):ax l c<=l.length:=List.findIdx_le_length
theorem iF {l:List Spn}{c:Int}{i:Nat}(h:i<l.length) (hlt:i<ax l c):¬c<=l[i].hi:=by
 have:=List.not_of_lt_findIdx hlt
 simpa using this
theorem rH {l:List Spn}{c:Int}(h:ax l c<l.length):c<=l[ax l c].hi:=by
 have:=List.findIdx_getElem (p:=λs:Spn=>decide (c<=s.hi)) (w:=h)
 exact of_decide_eq_true this
theorem yx {l:List Spn}(hr:lA l) (c:Int):aJ l c=if h:ax l c<l.length then(if l[ax l c].lo<=c then l[ax l c].val else 0) else 0:=by
 split
 ·rename_i hs;have h1:=rH hs;split
  ·rename_i h2;exact GL hs (λi hi hlt=>by have:=iF hi hlt;omega) ⟨h2,h1⟩
  ·rename_i h2;refine sr λi hi=>?_
   rcases Nat.lt_trichotomy i (ax l c) with hlt|he|hgt
   ·have:=iF hi hlt;omega
   ·subst he;omega
   ·have h3:=zn hr (i-1-ax l c) hs om;have h4:=(hr i hi).2 om;have e:ax l c+(i-1-ax l c)=i-1:=by omega
    simp only[e] at h3;omega
 ·rename_i hs;refine sr λi hi=>?_
  have:=iF (c:=c) hi om
  omega
end
section
abbrev bl (a b:Str):Bool:=Op.bytesLess a b
theorem tI:∀ a:Str,bl a a=false
 | []=>rfl
 | x::a=>by simp only[bl,Op.bytesLess];simp[tI a]
theorem xh:∀ {a b c:Str},bl a b=true->bl b c=true->bl a c=true
 | _,[],_,h,_=>by simp[bl,Op.bytesLess] at h
 | _,_::_,[],_,h=>by simp[bl,Op.bytesLess] at h
 | [],_::_,_::_,_,_=>by simp[bl,Op.bytesLess]
 | x::a,y::b,z::c,h1,h2=>by
  simp only[bl,Op.bytesLess,kN,kC,decide_eq_true_eq,beq_iff_eq] at *;rcases h1 with h1|⟨rfl,h1⟩
  ·rcases h2 with h2|⟨rfl,_⟩
   ·exact .inl (UInt8.lt_trans h1 h2)
   ·exact .inl h1
  ·rcases h2 with h2|⟨rfl,h2⟩
   ·exact .inl h2
   ·exact .inr ⟨rfl,xh h1 h2⟩
structure Mpg where
 frm:Int
 to:List Int
 tag:Str
 deriving Inhabited
def bef (a b:Mpg):Prop:=a.frm<b.frm∨(a.frm=b.frm∧bl a.tag b.tag=true)
theorem CP {a b c:Mpg}(h1:bef a b) (h2:bef b c):bef a c:=by
 unfold bef at *;rcases h1 with h1|⟨e1,h1⟩<;>rcases h2 with h2|⟨e2,h2⟩
 ·exact .inl om
 ·exact .inl om
 ·exact .inl om
 ·exact .inr ⟨by omega,xh h1 h2⟩
theorem Gu {a b:Mpg}(h:bef a b):¬(b.frm=a.frm∧b.tag=a.tag):=by
 rintro⟨e1,e2⟩;rcases h with h|⟨_,h⟩
 ·omega
 ·rw[e2,tI] at h;cases h
def uk (a b:Str):Int:=if bl a b=true then -1 else if a=b then 0 else 1
def Ef (a b:Mpg):Int:=if e8 a.frm b.frm=0 then uk a.tag b.tag else e8 a.frm b.frm
theorem Ac {a b:Mpg}:Ef a b<0↔bef a b:=by
 unfold Ef uk e8 bef;by_cases h1:a.frm<b.frm
 ·simp[h1]
 ·by_cases h2:b.frm<a.frm
  ·simp[h1,h2];omega
  ·have e:a.frm=b.frm:=by omega
   simp only[e,if_true,if_false,Int.lt_irrefl,false_or,true_and];by_cases h3:bl a.tag b.tag=true
   ·simp[h3]
   ·simp only[h3];by_cases h4:a.tag=b.tag
    ·simp[h4]
    ·simp[h4]
def cpQ (n:Int):Prop:=0<=n∧n<=1114111
def jW (m:Mpg):Prop:=cpQ m.frm∧∀ j (h:j<m.to.length),cpQ m.to[j]
def Ct (m:Mpg):Prop:=m.tag=[]∨Db m.tag
def Tw (l:List Mpg):Prop:=∃ i,∃ h:i<l.length,∃ k,∃ hk:k<i,l[i].frm=(l[k]'(by omega)).frm∧l[i].tag=(l[k]'(by omega)).tag
def Asc (l:List Mpg):Prop:=∀ i (h:i<l.length),∀ h0:i≠0,bef (l[i-1]'(by omega)) l[i]
theorem Asc.lt {l:List Mpg}(h:Asc l):∀ (d i:Nat) (hi:i+d+1<l.length),bef (l[i]'(by omega)) l[i+d+1]
 | 0,i,hi=>by have:=h (i+1) hi om;simpa using this
 | d+1,i,hi=>CP (Asc.lt h d i om) (h (i+d+1+1) hi om)
theorem Asc.once {l:List Mpg}(h:Asc l):¬Tw l:=by
 rintro⟨i,hi,k,hk,e⟩;have:=Asc.lt h (i-k-1) k om
 have e2:k+(i-k-1)+1=i:=by omega
 simp only[e2] at this;exact Gu this e
noncomputable def dI (l:List Mpg):Int:=
 if ∀ i (h:i<l.length),jW l[i] then(if ∀ i (h:i<l.length),l[i].to.length<=64 then(if ∀ i (h:i<l.length),Ct l[i] then 0 else 6) else 2) else 1
def MOk (l:List Mpg):Prop:=dI l=0∧Asc l
end
section
variable [GT]
abbrev bq (r:Rng):List D:=[i64 r.lo,i64 r.hi]
abbrev bD (l:List Rng):D:=lstS bq l
theorem aV (l:List Rng):aL (bD l)=true:=jO (λ_=>rfl) l
abbrev iM (m:Mpg):List D:=[i64 m.frm,aF m.to,.str m.tag]
abbrev ag (l:List Mpg):D:=lstS iM l
theorem qq (m:Mpg):aK (iM m)=true:=by simp[aK,aL,aC]
theorem bH (l:List Mpg):aL (ag l)=true:=jO qq l
def ClQ (l:List Spn) (i:Nat) (s:Spn):Prop:=(0<=s.lo∧s.lo<=s.hi∧s.hi<=1114111∧1<=s.val∧s.val<=254) ∧
 (i≠0->(l.getD (i-1) default).hi<s.lo∧¬(s.lo=(l.getD (i-1) default).hi+1∧s.val=(l.getD (i-1) default).val))
def ClV (l:List Spn):Prop:=∀ i (h:i<l.length),ClQ l i l[i]
def SmM (l:List Mpg):Prop:=(∀ i (h:i<l.length),i<30->l[i].to.length<=65∧l[i].tag.length<=40)∧l.length<=20
def jl:List Int->Int
 | []=>0
 | e::l=>if e=0 then jl l else e
theorem AP:∀ {l:List Int}{k:Nat}(h:k<l.length),(∀ i (hi:i<l.length),i<k->l[i]=0)->l[k]≠0->jl l=l[k]
 | [],k,h,_,_=>by simp at h
 | e::l,0,_,_,h2=>by simp only[List.getElem_cons_zero] at h2 ⊢;rw[jl,if_neg h2]
 | e::l,k+1,h,h1,h2=>by
  have e0:e=0:=h1 0 si om;rw[jl,if_pos e0];simp only[List.getElem_cons_succ] at h2 ⊢;exact AP (by simpa using h) (λi hi hk=>by have:=h1 (i+1) (by simpa using hi) om;simpa using this) h2
theorem oM:∀ {l:List Int},jl l=0↔∀ i (hi:i<l.length),l[i]=0
 | []=>by simp[jl]
 | e::l=>by
  rw[jl];constructor
  ·intro h i hi;split at h
   ·rename_i e0;cases i with
    | zero=>simpa using e0
    | succ i=>simpa using oM.1 h i (by simpa using hi)
   ·rename_i e0;exact absurd h e0
  ·intro h;have e0:e=0:=h 0 si;rw[if_pos e0];exact oM.2 λi hi=>by have:=h (i+1) (by simpa using hi);simpa using this
end
section
theorem xG2.rdX {p:Prop}(h:p:=by first|exact Rd.sl' rfl sim sim|fail):p:=h
theorem xG2.rbX {p:Prop}(h:p:=by first|exact Rb.cells (Rds.eqs (ae (by intro _;rfl) (x::xs) _) (aG (by intro _;rfl) _)) rfl|fail):p:=h
open xG2
variable [GT]
theorem bX {α β:Type}{P:Program}(x:Sem α) (f:α->Sem β):av P (x >>= f)=(av P x).bind λa=>av P (f a):=by
 show av P (x.bind f)=_
 induction x with
 | pure a=>rfl
 | program k ih=>exact ih _
 | mark m k ih=>exact ih
 | _=>rfl
theorem nz {α β:Type}{P:Program}(x:Sem α) (f:α->β):av P (f <$> x)=(av P x).map f:=by
 rw[map_eq_pure_bind,bX];cases av P x<;>rfl
theorem cS {α:Type}{P:Program}(a:α):av P (pure a:Sem α)=some a:=rfl
theorem dq {P:Program}:av P program=some P:=rfl
theorem dW {P:Program}{t:TypeId}{d:TypeDesc}(h:P.underlying t=some d):av P (underlying t)=some d:=by
 simp only[underlying,bX,dq,Option.bind_some,h,cS]
theorem kV {P:Program}{d:Nat}{t:TypeId}{k:IntKind}{a b:Int}(h:P.underlying t=some (.int k)):av P (Op.equalIn (d+1) t (.int .i64 a) (.int .i64 b))=some (a == b):=by
 simp[Op.equalIn,bX,dW h,cS]
theorem jJ {P:Program}{t:TypeId}{k:IntKind}{cs:Array Value}{o:Nat}{v:Value}(h:P.underlying t=some (.int k)) (hv:cs[o]?=some v):av P (part t cs o)=some v:=by
 simp[part,isAgg,bX,dW h,cS,hv]
theorem wD {P:Program}{d:Nat}{t:TypeId}{f0 f1:Field}{k:IntKind}{a b c e:Int}(h:P.underlying t=some (.struct #[f0,f1])) (hs:P.stoodInHeld t=false) (n0:f0.name ≠ "_") (n1:f1.name ≠ "_") (o0:f0.offset=0) (o1:f1.offset=1) (t0:P.underlying f0.type=some (.int k)) (t1:P.underlying f1.type=some (.int k)) :
  av P (Op.equalIn (d+2) t (.agg #[.int .i64 a,.int .i64 b]) (.agg #[.int .i64 c,.int .i64 e]))=some (a == c&&b == e):=by
 rw[Op.equalIn];simp[bX,dW h,dq,hs,n0,n1,o0,o1,jJ t0,kV t0];by_cases h1:a=c<;>by_cases h2:b=e<;>simp[h1,h2,bX,cS,jJ t1,kV t1]
theorem E1 {P:Program}{t:TypeId}{f0 f1:Field}{k:IntKind}{a b c e:Int}{ox oy:Operand}(h:P.underlying t=some (.struct #[f0,f1])) (hs:P.stoodInHeld t=false) (n0:f0.name ≠ "_") (n1:f1.name ≠ "_") (o0:f0.offset=0) (o1:f1.offset=1) (t0:P.underlying f0.type=some (.int k)) (t1:P.underlying f1.type=some (.int k)) (hg:P.eqGuardType P.depth t=false) :
  ba P .neq t ox oy (.agg [i64 a,i64 b]) (.agg [i64 c,i64 e])=some (.v (.bool (!(a == c&&b == e)))):=by
 have e1:av P (do eqGuard .neq t ox oy (.agg #[.int .i64 a,.int .i64 b]) (.agg #[.int .i64 c,.int .i64 e]);binOp .neq t (.agg #[.int .i64 a,.int .i64 b]) (.agg #[.int .i64 c,.int .i64 e]))=some (.bool (!(a == c&&b == e))):=by
  have e2:av P (Op.equalIn 10000 t (.agg #[.int .i64 a,.int .i64 b]) (.agg #[.int .i64 c,.int .i64 e]))=some (a == c&&b == e):=wD (d:=9998) h hs n0 n1 o0 o1 t0 t1;simp[eqGuard,binOp,bX,dq,hg,Op.equal,Op.maxDepth,e2,cS,nz]
 have e3:ba P .neq t ox oy (.agg [i64 a,i64 b]) (.agg [i64 c,i64 e])=(match av P (do eqGuard .neq t ox oy (.agg #[.int .i64 a,.int .i64 b]) (.agg #[.int .i64 c,.int .i64 e]);binOp .neq t (.agg #[.int .i64 a,.int .i64 b]) (.agg #[.int .i64 c,.int .i64 e])) with|some r=>ofV r|none=>none):=rfl;rw[e3,e1];rfl
theorem zx {a b c e:Int}{ox oy:Operand}:ba Tryz.prog .neq 201 ox oy (.agg [i64 a,i64 b]) (.agg [i64 c,i64 e])=some (.v (.bool (!(a == c&&b == e)))):=
 E1 (k:=.i64) rfl (by kernel_rfl) (by decide) (by decide) rfl rfl rfl rfl (by kernel_rfl)
theorem pT {x y:Rng}{ox oy:Operand}(h:¬x=y):ba Tryz.prog .neq 201 ox oy (.agg (bq x)) (.agg (bq y))=some (.v (.bool true)):=by
 rw[zx];cases x;cases y;simp at h;simp only[kA,D.v.injEq,Value.bool.injEq,Bool.not_eq_true',Bool.and_eq_false_imp,beq_iff_eq,beq_eq_false_iff_ne];exact h
theorem uK {x:Rng}{ox oy:Operand}:ba Tryz.prog .neq 201 ox oy (.agg (bq x)) (.agg (bq x))=some (.v (.bool false)):=by
 rw[zx];simp
end
section
theorem xH5.rdX {p:Prop}(h:p:=by first|exact Rd.same rfl|exact Rd.nil|exact Rd.sl' rfl hle'.symm hle'.symm|exact Rd.frzL aa aU rfl rfl hsl0.symm rfl rfl|exact Rd.frz rfl rfl (kD rfl) (Rds.eqs rfl rfl)|exact Rd.sl' rfl sim sim|fail):p:=h
theorem xH5.rbX {p:Prop}(h:p:=by first|exact Rb.cells (Rds.eqs (ae (c:=bq) (sz:=2) aa (x::xs) (⟨0,1114111⟩:Rng)) (aG aU _)) rfl|exact Rb.cells (Rds.eqs (ae (c:=bq) (sz:=2) aa (x::xs) (⟨0,l[k].hi⟩:Rng)) (aG aU _)) rfl|exact Rb.cells (Rds.eqs (ae (c:=bq) (sz:=2) aa (x::xs) (⟨l[k].lo,1114111⟩:Rng)) (aG aU _)) rfl|exact Rb.cells (Rds.eqs (ae (c:=bq) (sz:=2) aa (x::xs) (⟨l[k].lo,l[k].hi⟩:Rng)) (aG aU _)) rfl|exact Rb.cells (Rds.eqs (ae (c:=bq) (sz:=2) aa (y::ys) s[k]) (aG aU _)) rfl|exact Rb.cells (Rds.eqs (by first|(rw[<-h5];rfl;done)|fail) (aG aU _)) rfl|exact Rb.cells (Rds.eqs (by first|(rw[e3];done)|fail) (aG aU _)) rfl|exact Rb.cells (Rds.eqs (by first|(rw[<-e3];done)|fail) (aG aU _)) rfl|exact Rb.cells (Rds.eqs (by first|(rw[he];done)|fail) (aG aU _)) rfl|fail):p:=h
open xH5
variable [GT]
theorem aa (r:Rng):(bq r).length=2:=rfl
theorem aU (r:Rng):aK (bq r)=true:=rfl
abbrev fJ (l:List Rng):D:=.agg [bD l]
theorem Or_c {l:List Int}(hl:l.length<=1000):Pu Tryz.prog 344 [aF l] (i64 (jl l)):=by
 refine pv Tryz.func344 ?_;repeat' ((conv=>whnf);first|exact kQ|(refine bk ?_ ?_<;>intro _<;>try(exfalso;omega))|refine stq ?_)
 refine aH.by aA T0 (λk:Nat=>⟨tmp 18 [(3,i64 0),(6,aF l),(7,i64 l.length),(8,i64 (k:Int))],⟨0,[]⟩⟩)
  (λk=>k<=l.length∧∀ i (h:i<l.length),i<k->l[i]=0) (λk=>l.length-k) 0 ⟨by omega,λ_ _ h=>by omega⟩ ?_ ?_
 ·exact lq0
 intro k ⟨h3,h4⟩;repeat' ((conv=>whnf);first|exact kQ|(refine bk ?_ ?_<;>intro _<;>try(exfalso;omega))|refine stq ?_)
 all_goals(conv=>whnf)
 all_goals first
  | exact aE.int (AP om h4 asm).symm
  | exact aE.int (oM.2 (fp om h4)).symm
  | (refine⟨k+1,⟨by omega,ad om h4 om⟩,by omega,?_⟩
     exact lq0)
theorem Fm {a b:Rng}:iL a b=jl [e8 a.lo b.lo,e8 a.hi b.hi]:=by
 unfold iL e8 jl jl jl;repeat' split
 all_goals omega
theorem Hk {a b:Rng}:Pu Tryz.prog 343 [.agg (bq a),.agg (bq b)] (i64 (iL a b)):=by
 refine pv Tryz.func343 ?_;repeat' ((conv=>whnf);first|exact kQ|(refine bk ?_ ?_<;>intro _<;>try(exfalso;omega))|refine stq ?_|refine aX.byM (id:=1) aA T0 [0,1,0,4,15,0,32,0,128,511,1023,2047,4095] (by kernel_rfl) ?_|refine CM.pu dZ ?_|refine Chk.mk ⟨_,rfl⟩ ?_|refine Chk.mk (by intro h;simp at h;simp[h]) ?_|(refine CM.w ?_;refine Cll.emb (Or_c (l:=[e8 a.lo b.lo,e8 a.hi b.hi]) si ⟨0,[]⟩) [] [13] (i64 (jl [e8 a.lo b.lo,e8 a.hi b.hi])) [] [(0,.cells (bq a) true),(1,.cells (bq b) true)] rfl cZ bxA rdA bxA reA ?_)|fail)
 all_goals(conv=>whnf)
 exact aE.int Fm.symm
abbrev Hj:D:=.fn (.func 343) [] []
theorem Hm {l:List Rng}(hl:l.length<=12) (hn:l≠[]):AC1 Tryz.prog 403 [.sl 0 0 l.length l.length 2 false,i64 0,i64 l.length,Hj] ⟨1,[(0,.cells (l.flatMap bq) false)]⟩ (.tup []) ⟨4,[(0,.cells ((gn ltR zR l).flatMap bq) false)]⟩:=by
 have h0:0<l.length:=List.length_pos_iff.2 hn;refine AC1.of_vl aA T0 Tryz.func403 rfl rfl ?_;repeat' ((conv=>whnf);first|exact kQ|(refine bk ?_ ?_<;>intro _<;>try(exfalso;omega))|refine stq ?_)
 refine aH.by aA T0 (λi:Nat=>⟨tmp 53 [(0,.sl 0 0 l.length l.length 2 false),(1,i64 0),(2,i64 l.length),(3,Hj),(8,i64 ((i+1:Nat):Int))],⟨1,[(0,.cells ((wr ltR zR l i).flatMap bq) false)]⟩⟩)
  (λi=>i<l.length) (λi=>l.length-i) 0 h0 ?_ ?_
 ·exact lq0
 intro i h1;by_cases h2:i+1<l.length
 ·repeat' ((conv=>whnf);first|exact kQ|(refine bk ?_ ?_<;>intro _<;>try(exfalso;omega))|refine stq ?_|fail)
  refine aH.by2 aA T0 (λ(j:Nat) (cur:List Rng)=>⟨tmp 53 [(0,.sl 0 0 l.length l.length 2 false),(1,i64 0),(2,i64 l.length),(3,Hj),(8,i64 ((i+1:Nat):Int)),(9,i64 (j:Int))],⟨1,[(0,.cells (cur.flatMap bq) false)]⟩⟩)
   (λj cur=>j<l.length∧cur.length=l.length∧Bn ltR zR cur j=wr ltR zR l (i+1)) (λj _=>j) (i+1) (wr ltR zR l i) ⟨h2,by simp,rfl⟩ ?_ ?_
  ·exact lq0
  intro j cur ⟨h3,h4,h5⟩;cases j with
  | zero=>
   repeat' ((conv=>whnf);first|exact kQ|(refine bk ?_ ?_<;>intro _<;>try(exfalso;omega))|refine stq ?_|refine aX.by (id:=4) aA T0 [0,0,3,7,15,15,15,111,239,15,15,1039,3599,7695,16383,32767,65535] (by kernel_rfl) ?_|fail)
   all_goals(conv=>whnf)
   refine⟨i+1,h2,by omega,?_⟩;exact lq0
  | succ j=>
   have e1:cur.getD j zR=cur[j]:=bR om;have e2:cur.getD (j+1) zR=cur[j+1]:=bR om;repeat' ((conv=>whnf);first|exact kQ|(refine bk ?_ ?_<;>intro _<;>try(exfalso;omega))|refine stq ?_|refine cp Hk ?_|refine aX.by (id:=4) aA T0 [0,0,3,7,15,15,15,111,239,15,15,1039,3599,7695,16383,32767,65535] (by kernel_rfl) ?_|refine aX.by (id:=6) aA T0 [0,0,0,0,8,0,0,64,224,480,0,0,3072,7168,16355,32739,65535,131071] (by kernel_rfl) ?_|refine cA.at (j+1) om om ?_|refine cA.at j om om ?_|refine Get.flat aa (j+1) om om ?_|refine Get.flat aa j om om ?_|refine Put.flat aa (l:=cur) (j+1) (cur[j]'(by omega)) om om ?_|refine Put.flat aa (l:=cur.set (j+1) (cur[j]'(by omega))) j (cur[j+1]'(by omega)) om (by simp;omega) ?_|fail)
   all_goals(conv=>whnf)
   ·have hlt:ltR cur[j+1] cur[j]=true:=decide_eq_true asm;have e3:A0 zR cur j=(cur.set (j+1) (cur[j]'(by omega))).set j (cur[j+1]'(by omega)):=by rw[A0,e1,e2]
    refine⟨j,A0 zR cur j,⟨by omega,by simp[h4],?_⟩,by omega,?_⟩
    ·rw[<-h5];simp only[Bn,e1,e2,hlt,if_true]
    exact lq0
   ·have hlt:¬ltR cur[j+1] cur[j]=true:=by rw[ltR,decide_eq_true_eq];assumption
    have e3:cur=wr ltR zR l (i+1):=by rw[<-h5];simp only[Bn,e1,e2,hlt];simp
    refine⟨i+1,h2,by omega,?_⟩;exact lq0
 ·repeat' ((conv=>whnf);first|exact kQ|(refine bk ?_ ?_<;>intro _<;>try(exfalso;omega))|refine stq ?_|fail)
  all_goals(conv=>whnf)
  have e:gn ltR zR l=wr ltR zR l i:=by rw[gn,show l.length-1=i from by omega]
  exact⟨Or.inl rfl,rfl,by rw[e]⟩
theorem Hn {l:List Rng}(hl:l.length<=12) (hn:l≠[]):AC1 Tryz.prog 342 [.sl 0 0 l.length l.length 2 false,Hj] ⟨1,[(0,.cells (l.flatMap bq) false)]⟩ (.tup []) ⟨27,[(0,.cells ((gn ltR zR l).flatMap bq) false)]⟩:=by
 have hlen:Pu Tryz.prog 189 [.v (.int .u64 (IntKind.u64.wrap (l.length:Int)))] (i64 (([0,1,2,2,3,3,3,3,4,4,4,4,4]:List Int).getD l.length 0)):=by
  rw[show IntKind.u64.wrap (l.length:Int)=(l.length:Int) from by simp[IntKind.wrap,IntKind.bits,IntKind.signed];omega];exact Ho hl
 refine AC1.of_vl aA T0 Tryz.func342 rfl rfl ?_;repeat' ((conv=>whnf);first|exact kQ|(refine bk ?_ ?_<;>intro _<;>try(exfalso;omega))|refine stq ?_|refine cp hlen ?_|(apply Cll.inl aA T0 Tryz.func386 rfl rfl ?_;rotate_left)|exact⟨Or.inr rfl,rfl,rfl⟩|refine aH.times aA T0 1 ?_|refine Cll.emb (Hm hl hn) [(0,0)] [] (.tup []) [(0,.cells ((gn ltR zR l).flatMap bq) false)] [] rfl cZ bxA rdA bxA reA ?_|fail)
 all_goals(conv=>whnf)
 exact⟨Or.inl rfl,rfl,rfl⟩
theorem CX:Pu Tryz.prog 342 [aO,Hj] (.tup []):=by
 have hlen:Pu Tryz.prog 189 [.v (.int .u64 (IntKind.u64.wrap (0:Int)))] (i64 0):=Ho (n:=0) om;refine pv Tryz.func342 ?_;repeat' ((conv=>whnf);first|exact kQ|(refine bk ?_ ?_<;>intro _<;>try(exfalso;omega))|refine stq ?_|refine cp hlen ?_|(apply Cll.inl aA T0 Tryz.func386 rfl rfl ?_;rotate_left)|(apply Cll.inl aA T0 Tryz.func403 rfl rfl ?_;rotate_left)|exact⟨Or.inr rfl,rfl,rfl⟩|exact⟨Or.inl rfl,rfl,rfl⟩|refine aH.times aA T0 1 ?_|fail)
 all_goals(conv=>whnf)
 exact aE.same rfl rfl
theorem tF {r:Rng}{a b:Int}(h1:a=max r.lo 0) (h2:b=min r.hi 1114111):jX r=⟨a,b⟩:=by rw[jX,h1,h2]
theorem dO {l:List Rng}{k:Nat}(h:k<l.length){a b:Int}(h1:a=max l[k].lo 0) (h2:b=min l[k].hi 1114111) (hab:a<=b):cT (l.take (k+1))=cT (l.take k)++[⟨a,b⟩]:=by
 rw[cT,aS h,List.map_append,List.filter_append,List.map_singleton,tF h1 h2,List.filter_cons_of_pos (by simpa using hab)];rfl
theorem eN {l:List Rng}{k:Nat}(h:k<l.length){a b:Int}(h1:a=max l[k].lo 0) (h2:b=min l[k].hi 1114111) (hab:¬a<=b):cT (l.take (k+1))=cT (l.take k):=by
 rw[cT,aS h,List.map_append,List.filter_append,List.map_singleton,tF h1 h2,List.filter_cons_of_neg (by simpa using hab),List.filter_nil,List.append_nil];rfl
theorem qd (l:List Rng):(cT l).length<=l.length:=Nat.le_trans (List.length_filter_le _ _) si
theorem BQ {l:List Rng}{r:Rng}(h:r∈cT l):0<=r.hi∧r.hi<=1114111:=by
 simp only[cT,List.mem_filter,List.mem_map,decide_eq_true_eq] at h;obtain⟨⟨q,_,rfl⟩,h2⟩:=h;simp only[jX] at h2 ⊢;omega
theorem iW (y:Rng) (ys:List Rng) (m:Nat) (v:Rng):∃ y' ys',(y::ys).set m v=y' :: ys':=by cases m<;>exact⟨_,_,rfl⟩
theorem uU {o:List Rng}(h:0<o.length):o.getLast?=some (o[o.length-1]'(by omega)):=by rw[List.getLast?_eq_getElem?,List.getElem?_eq_getElem om]
theorem ve {o:List Rng}(h:0<o.length) (v:Rng):o.dropLast++[v]=o.set (o.length-1) v:=by
 obtain⟨q,y,rfl⟩:∃ q y,o=q++[y]:=⟨o.dropLast,o.getLast (by rintro rfl;simp at h),(List.dropLast_concat_getLast _).symm⟩;simp
theorem m9 {o l:List Rng}{r:Rng}{hi:Int}(h:0<o.length) (hc:r.lo<=(o[o.length-1]'(by omega)).hi+1) (hh:hi=max (o[o.length-1]'(by omega)).hi r.hi):mrg o (r::l)=mrg (o.set (o.length-1) ⟨(o[o.length-1]'(by omega)).lo,hi⟩) l:=by
 rw[mrg,uU h];simp only;rw[if_pos hc,ve h,<-hh]
theorem z6 {o l:List Rng}{r:Rng}(h:0<o.length) (hc:¬r.lo<=(o[o.length-1]'(by omega)).hi+1):mrg o (r::l)=mrg (o++[r]) l:=by
 rw[mrg,uU h];simp only;rw[if_neg hc]
set_option maxHeartbeats 8000000 in
theorem Hl {l:List Rng}(hl:l.length<=12):Pu Tryz.prog 270 [bD l] (fJ (mkR l)):=by
 refine pv Tryz.func270 ?_;repeat' ((conv=>whnf);first|exact kQ|(refine bk ?_ ?_<;>intro _<;>try(exfalso;omega))|refine stq ?_)
 refine aH.by2 aA T0 (λ(k:Nat) (o:List Rng)=>⟨tmp 79 [(2,.ptr 0 0),(3,fB 1 2 o),(11,bD l),(12,i64 l.length),(13,i64 (k:Int))],⟨2,(0,.cells [aO] true)::gA 1 bq o⟩⟩)
  (λk o=>k<=l.length∧o=cT (l.take k)) (λk _=>l.length-k) 0 [] ⟨by omega,rfl⟩ ?_ ?_
 ·exact lq [(0,_)] []
 intro k o ⟨h3,h4⟩;have h5:o.length<=k:=by rw[h4];exact Nat.le_trans (qd _) (by simp;omega)
 by_cases hk:k<l.length
 ·by_cases ha:l[k].lo<0
  ·by_cases hb:1114111<l[k].hi
   ·
    cases o with
    | nil=>
     repeat' ((conv=>whnf);first|exact kQ|(refine bk ?_ ?_<;>intro _<;>try(exfalso;omega))|refine stq ?_)
     all_goals(conv=>whnf)
     all_goals first
      | (refine⟨k+1,[],⟨by omega,by rw[eN hk (a:=0) (b:=1114111) om om om];exact h4⟩,by omega,?_⟩
         exact lq [(0,_)] [])
      | (refine⟨k+1,[⟨0,1114111⟩],⟨by omega,by rw[dO hk (a:=0) (b:=1114111) om om om,<-h4];rfl⟩,by omega,?_⟩
         exact lq [(0,_),(1,_)] [])
    | cons x xs=>
     have hlen:(x::xs).length<=12:=by omega
     repeat' ((conv=>whnf);first|exact kQ|(refine bk ?_ ?_<;>intro _<;>try(exfalso;omega))|refine stq ?_)
     all_goals(conv=>whnf)
     all_goals first
      | (refine⟨k+1,x::xs,⟨by omega,by rw[eN hk (a:=0) (b:=1114111) om om om];exact h4⟩,by omega,?_⟩
         exact lq [(0,_),(1,_)] [])
      | (refine⟨k+1,(x::xs)++[⟨0,1114111⟩],⟨by omega,by rw[dO hk (a:=0) (b:=1114111) om om om,<-h4]⟩,by omega,?_⟩
         exact lq [(0,_),(1,_)] [])
   ·
    cases o with
    | nil=>
     repeat' ((conv=>whnf);first|exact kQ|(refine bk ?_ ?_<;>intro _<;>try(exfalso;omega))|refine stq ?_)
     all_goals(conv=>whnf)
     all_goals first
      | (refine⟨k+1,[],⟨by omega,by rw[eN hk (a:=0) (b:=l[k].hi) om om om];exact h4⟩,by omega,?_⟩
         exact lq [(0,_)] [])
      | (refine⟨k+1,[⟨0,l[k].hi⟩],⟨by omega,by rw[dO hk (a:=0) (b:=l[k].hi) om om om,<-h4];rfl⟩,by omega,?_⟩
         exact lq [(0,_),(1,_)] [])
    | cons x xs=>
     have hlen:(x::xs).length<=12:=by omega
     repeat' ((conv=>whnf);first|exact kQ|(refine bk ?_ ?_<;>intro _<;>try(exfalso;omega))|refine stq ?_)
     all_goals(conv=>whnf)
     all_goals first
      | (refine⟨k+1,x::xs,⟨by omega,by rw[eN hk (a:=0) (b:=l[k].hi) om om om];exact h4⟩,by omega,?_⟩
         exact lq [(0,_),(1,_)] [])
      | (refine⟨k+1,(x::xs)++[⟨0,l[k].hi⟩],⟨by omega,by rw[dO hk (a:=0) (b:=l[k].hi) om om om,<-h4]⟩,by omega,?_⟩
         exact lq [(0,_),(1,_)] [])
  ·by_cases hb:1114111<l[k].hi
   ·
    cases o with
    | nil=>
     repeat' ((conv=>whnf);first|exact kQ|(refine bk ?_ ?_<;>intro _<;>try(exfalso;omega))|refine stq ?_)
     all_goals(conv=>whnf)
     all_goals first
      | (refine⟨k+1,[],⟨by omega,by rw[eN hk (a:=l[k].lo) (b:=1114111) om om om];exact h4⟩,by omega,?_⟩
         exact lq [(0,_)] [])
      | (refine⟨k+1,[⟨l[k].lo,1114111⟩],⟨by omega,by rw[dO hk (a:=l[k].lo) (b:=1114111) om om om,<-h4];rfl⟩,by omega,?_⟩
         exact lq [(0,_),(1,_)] [])
    | cons x xs=>
     have hlen:(x::xs).length<=12:=by omega
     repeat' ((conv=>whnf);first|exact kQ|(refine bk ?_ ?_<;>intro _<;>try(exfalso;omega))|refine stq ?_)
     all_goals(conv=>whnf)
     all_goals first
      | (refine⟨k+1,x::xs,⟨by omega,by rw[eN hk (a:=l[k].lo) (b:=1114111) om om om];exact h4⟩,by omega,?_⟩
         exact lq [(0,_),(1,_)] [])
      | (refine⟨k+1,(x::xs)++[⟨l[k].lo,1114111⟩],⟨by omega,by rw[dO hk (a:=l[k].lo) (b:=1114111) om om om,<-h4]⟩,by omega,?_⟩
         exact lq [(0,_),(1,_)] [])
   ·
    cases o with
    | nil=>
     repeat' ((conv=>whnf);first|exact kQ|(refine bk ?_ ?_<;>intro _<;>try(exfalso;omega))|refine stq ?_)
     all_goals(conv=>whnf)
     all_goals first
      | (refine⟨k+1,[],⟨by omega,by rw[eN hk (a:=l[k].lo) (b:=l[k].hi) om om om];exact h4⟩,by omega,?_⟩
         exact lq [(0,_)] [])
      | (refine⟨k+1,[⟨l[k].lo,l[k].hi⟩],⟨by omega,by rw[dO hk (a:=l[k].lo) (b:=l[k].hi) om om om,<-h4];rfl⟩,by omega,?_⟩
         exact lq [(0,_),(1,_)] [])
    | cons x xs=>
     have hlen:(x::xs).length<=12:=by omega
     repeat' ((conv=>whnf);first|exact kQ|(refine bk ?_ ?_<;>intro _<;>try(exfalso;omega))|refine stq ?_)
     all_goals(conv=>whnf)
     all_goals first
      | (refine⟨k+1,x::xs,⟨by omega,by rw[eN hk (a:=l[k].lo) (b:=l[k].hi) om om om];exact h4⟩,by omega,?_⟩
         exact lq [(0,_),(1,_)] [])
      | (refine⟨k+1,(x::xs)++[⟨l[k].lo,l[k].hi⟩],⟨by omega,by rw[dO hk (a:=l[k].lo) (b:=l[k].hi) om om om,<-h4]⟩,by omega,?_⟩
         exact lq [(0,_),(1,_)] [])
 ·have ho:o=cT l:=by rw[h4,kE om]
  cases o with
  | nil=>
   have hs0:gn ltR zR (cT l)=[]:=by rw[<-ho];rfl
   have hend:mkR l=mrg [] (gn ltR zR (cT l)):=rfl;repeat' ((conv=>whnf);first|exact kQ|(refine bk ?_ ?_<;>intro _<;>try(exfalso;omega))|refine stq ?_|refine cp CX ?_|fail)
   generalize hs:gn ltR zR (cT l)=s at *
   refine aH.by2 aA T0 (λ(k:Nat) (out:List Rng)=>⟨tmp 79 [(2,.ptr 0 0),(7,fB 1 2 out),(36,bD s),(37,i64 s.length),(38,i64 (k:Int))],⟨2,(0,.cells [aO] true)::gA 1 bq out⟩⟩)
    (λk out=>((k<=s.length∧out.length<=k)∧∀ r,r∈out->0<=r.hi∧r.hi<=1114111)∧mrg [] s=mrg out (s.drop k)) (λk _=>s.length-k) 0 [] ⟨⟨⟨by omega,by simp⟩,by simp⟩,rfl⟩ ?_ ?_
   ·subst hs0;exact lq [(0,_)] []
   have hsl:s.length<=12:=by rw[hs0];simp
   have hsb:∀ r,r∈s->0<=r.hi∧r.hi<=1114111:=by rw[hs0];simp
   intro k out ⟨⟨⟨h6,h7⟩,h9⟩,h8⟩;by_cases hk2:k<s.length
   ·have hd:s.drop k=s[k]::s.drop (k+1):=kK hk2;cases out with
    | nil=>
     repeat' ((conv=>whnf);first|exact kQ|(refine bk ?_ ?_<;>intro _<;>try(exfalso;omega))|refine stq ?_)
     all_goals(conv=>whnf)
     refine⟨k+1,[s[k]],⟨⟨⟨by omega,by simp⟩,λr hr=>by simp only[List.mem_singleton] at hr;subst hr;exact hsb _ (kM hk2)⟩,by rw[h8,hd];rfl⟩,by omega,?_⟩;exact lq [(0,_),(1,_)] []
    | cons y ys=>
     have hpos:0<(y::ys).length:=by simp
     have hle:(y::ys).length<=12:=by omega
     have hb1:=h9 _ (kM (show(y::ys).length-1<(y::ys).length by omega));have hb2:=hsb _ (kM hk2);repeat' ((conv=>whnf);first|refine Get.flat1 aa ((y::ys).length-1) 1 (by dsimp only;omega) om rfl ?_|exact kQ|(refine bk ?_ ?_<;>intro _<;>try(exfalso;omega))|refine stq ?_|refine aX.by (id:=16) aA T0 [0,0,2,0,0,16,56,120,248,0,512,2040,4095,8191,16383] (by kernel_rfl) ?_|refine cA.at ((y::ys).length-1) om om ?_|refine Put.flat1 aa ((y::ys).length-1) 1 ⟨((y::ys)[(y::ys).length-1]'(by omega)).lo,s[k].hi⟩ (by dsimp only;omega) om om rfl ?_|refine Put.flat1 aa ((y::ys).length-1) 1 ⟨((y::ys)[(y::ys).length-1]'(by omega)).lo,((y::ys)[(y::ys).length-1]'(by omega)).hi⟩ (by dsimp only;omega) om om rfl ?_|fail)
     all_goals(conv=>whnf)
     all_goals first
      | (have hj:=m9 (l:=s.drop (k+1)) hpos asm (hi:=s[k].hi) om
         obtain⟨y',ys',he⟩:=iW y ys ((y::ys).length-1) ⟨((y::ys)[(y::ys).length-1]'(by omega)).lo,s[k].hi⟩;have hle':(y' :: ys').length=(y::ys).length:=by rw[<-he];simp
         refine⟨k+1,y' :: ys',⟨⟨⟨by omega,by omega⟩,λr hr=>by rw[<-he] at hr;rcases List.mem_or_eq_of_mem_set hr with hr|rfl<;>first|exact h9 r hr|exact hb2⟩,by rw[h8,hd,hj,he]⟩,by omega,?_⟩
         exact lq [(0,_),(1,_)] [])
      | (have hj:=m9 (l:=s.drop (k+1)) hpos asm (hi:=((y::ys)[(y::ys).length-1]'(by omega)).hi) om
         obtain⟨y',ys',he⟩:=iW y ys ((y::ys).length-1) ⟨((y::ys)[(y::ys).length-1]'(by omega)).lo,((y::ys)[(y::ys).length-1]'(by omega)).hi⟩;have hle':(y' :: ys').length=(y::ys).length:=by rw[<-he];simp
         refine⟨k+1,y' :: ys',⟨⟨⟨by omega,by omega⟩,λr hr=>by rw[<-he] at hr;rcases List.mem_or_eq_of_mem_set hr with hr|rfl<;>first|exact h9 r hr|exact hb1⟩,by rw[h8,hd,hj,he]⟩,by omega,?_⟩
         exact lq [(0,_),(1,_)] [])
      | (refine⟨k+1,(y::ys)++[s[k]],⟨⟨⟨by omega,by rw[kG];simp only[List.length_singleton];omega⟩,λr hr=>by rcases List.mem_append.1 hr with hr|hr<;>first|exact h9 r hr|exact(List.mem_singleton.1 hr)▸hb2⟩,by rw[h8,hd,z6 hpos asm]⟩,by omega,?_⟩
         exact lq [(0,_),(1,_)] [])
   ·have he:mrg [] s=out:=by rw[h8,List.drop_of_length_le om];rfl
    rw[hend,he];cases out with
    | nil=>
     repeat' ((conv=>whnf);first|exact kQ|(refine bk ?_ ?_<;>intro _<;>try(exfalso;omega))|refine stq ?_)
     all_goals(conv=>whnf)
     exact⟨.agg (.cons .nil .nil)⟩
    | cons y ys=>
     repeat' ((conv=>whnf);first|exact kQ|(refine bk ?_ ?_<;>intro _<;>try(exfalso;omega))|refine stq ?_)
     all_goals(conv=>whnf)
     exact⟨.agg (.cons (Rd.frzL aa aU rfl rfl rfl rfl rfl) .nil)⟩
  | cons x xs=>
   have hlen:(x::xs).length<=12:=by omega
   have hend:mkR l=mrg [] (gn ltR zR (x::xs)):=by rw[ho];rfl
   have hsl0:(gn ltR zR (x::xs)).length=(x::xs).length:=srtG_len ..;repeat' ((conv=>whnf);first|exact kQ|(refine bk ?_ ?_<;>intro _<;>try(exfalso;omega))|refine stq ?_|refine Cll.emb (Hn (l:=x::xs) hlen si) [(0,1)] [] (.tup []) [(1,.cells ((gn ltR zR (x::xs)).flatMap bq) false)] [(0,.cells [aO] true)] rfl cZ bxA rdA bxA reA ?_|fail)
   have hsb0:∀ r,r∈gn ltR zR (x::xs)->0<=r.hi∧r.hi<=1114111:=λr hr=>BQ (by rw[<-ho];exact(j0 _).1.mem_iff.1 hr)
   generalize hs:gn ltR zR (x::xs)=s at *
   refine aH.by2 aA T0 (λ(k:Nat) (out:List Rng)=>⟨tmp 79 [(2,.ptr 0 0),(7,fB 1 2 out),(36,bD s),(37,i64 s.length),(38,i64 (k:Int))],⟨2,(0,.cells [aO] true)::gA 1 bq out⟩⟩)
    (λk out=>((k<=s.length∧out.length<=k)∧∀ r,r∈out->0<=r.hi∧r.hi<=1114111)∧mrg [] s=mrg out (s.drop k)) (λk _=>s.length-k) 0 [] ⟨⟨⟨by omega,by simp⟩,by simp⟩,rfl⟩ ?_ ?_
   ·exact lq [(0,_)] [1]
   have hsl:s.length<=12:=by omega
   have hsb:=hsb0;intro k out ⟨⟨⟨h6,h7⟩,h9⟩,h8⟩;by_cases hk2:k<s.length
   ·have hd:s.drop k=s[k]::s.drop (k+1):=kK hk2;cases out with
    | nil=>
     repeat' ((conv=>whnf);first|exact kQ|(refine bk ?_ ?_<;>intro _<;>try(exfalso;omega))|refine stq ?_)
     all_goals(conv=>whnf)
     refine⟨k+1,[s[k]],⟨⟨⟨by omega,by simp⟩,λr hr=>by simp only[List.mem_singleton] at hr;subst hr;exact hsb _ (kM hk2)⟩,by rw[h8,hd];rfl⟩,by omega,?_⟩;exact lq [(0,_),(1,_)] []
    | cons y ys=>
     have hpos:0<(y::ys).length:=by simp
     have hle:(y::ys).length<=12:=by omega
     have hb1:=h9 _ (kM (show(y::ys).length-1<(y::ys).length by omega));have hb2:=hsb _ (kM hk2);repeat' ((conv=>whnf);first|refine Get.flat1 aa ((y::ys).length-1) 1 (by dsimp only;omega) om rfl ?_|exact kQ|(refine bk ?_ ?_<;>intro _<;>try(exfalso;omega))|refine stq ?_|refine aX.by (id:=16) aA T0 [0,0,2,0,0,16,56,120,248,0,512,2040,4095,8191,16383] (by kernel_rfl) ?_|refine cA.at ((y::ys).length-1) om om ?_|refine Put.flat1 aa ((y::ys).length-1) 1 ⟨((y::ys)[(y::ys).length-1]'(by omega)).lo,s[k].hi⟩ (by dsimp only;omega) om om rfl ?_|refine Put.flat1 aa ((y::ys).length-1) 1 ⟨((y::ys)[(y::ys).length-1]'(by omega)).lo,((y::ys)[(y::ys).length-1]'(by omega)).hi⟩ (by dsimp only;omega) om om rfl ?_|fail)
     all_goals(conv=>whnf)
     all_goals first
      | (have hj:=m9 (l:=s.drop (k+1)) hpos asm (hi:=s[k].hi) om
         obtain⟨y',ys',he⟩:=iW y ys ((y::ys).length-1) ⟨((y::ys)[(y::ys).length-1]'(by omega)).lo,s[k].hi⟩;have hle':(y' :: ys').length=(y::ys).length:=by rw[<-he];simp
         refine⟨k+1,y' :: ys',⟨⟨⟨by omega,by omega⟩,λr hr=>by rw[<-he] at hr;rcases List.mem_or_eq_of_mem_set hr with hr|rfl<;>first|exact h9 r hr|exact hb2⟩,by rw[h8,hd,hj,he]⟩,by omega,?_⟩
         exact lq [(0,_),(1,_)] [])
      | (have hj:=m9 (l:=s.drop (k+1)) hpos asm (hi:=((y::ys)[(y::ys).length-1]'(by omega)).hi) om
         obtain⟨y',ys',he⟩:=iW y ys ((y::ys).length-1) ⟨((y::ys)[(y::ys).length-1]'(by omega)).lo,((y::ys)[(y::ys).length-1]'(by omega)).hi⟩;have hle':(y' :: ys').length=(y::ys).length:=by rw[<-he];simp
         refine⟨k+1,y' :: ys',⟨⟨⟨by omega,by omega⟩,λr hr=>by rw[<-he] at hr;rcases List.mem_or_eq_of_mem_set hr with hr|rfl<;>first|exact h9 r hr|exact hb1⟩,by rw[h8,hd,hj,he]⟩,by omega,?_⟩
         exact lq [(0,_),(1,_)] [])
      | (refine⟨k+1,(y::ys)++[s[k]],⟨⟨⟨by omega,by rw[kG];simp only[List.length_singleton];omega⟩,λr hr=>by rcases List.mem_append.1 hr with hr|hr<;>first|exact h9 r hr|exact(List.mem_singleton.1 hr)▸hb2⟩,by rw[h8,hd,z6 hpos asm]⟩,by omega,?_⟩
         exact lq [(0,_),(1,_)] [])
   ·have he:mrg [] s=out:=by rw[h8,List.drop_of_length_le om];rfl
    rw[hend,he];cases out with
    | nil=>
     repeat' ((conv=>whnf);first|exact kQ|(refine bk ?_ ?_<;>intro _<;>try(exfalso;omega))|refine stq ?_)
     all_goals(conv=>whnf)
     exact⟨.agg (.cons .nil .nil)⟩
    | cons y ys=>
     repeat' ((conv=>whnf);first|exact kQ|(refine bk ?_ ?_<;>intro _<;>try(exfalso;omega))|refine stq ?_)
     all_goals(conv=>whnf)
     exact⟨.agg (.cons (Rd.frzL aa aU rfl rfl rfl rfl rfl) .nil)⟩
end
end Go.Proofs.YtihggclfifimoaaGreatDoor
