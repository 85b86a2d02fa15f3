/-
  Contracts of functions over data: names of classes.
-/
import Derived.Test.YtlimkdlhldlolaaGreatDoorC0
set_option linter.unusedSectionVars false
namespace Go.Proofs.YtlimkdlhldlolaaGreatDoor
open Go Go.Am Classical
set_option maxRecDepth 100000
section
variable [GT]
theorem Hf {s:Str}(hs:s.length<=9223372036854775807):Pu Tryz.prog 123 [.str s] (boo (decide (s≠[]/\s.length<=32/\yh s))):=by
 refine pv Tryz.func123 ?_;repeat' ((conv=>whnf);first|exact kQ|(refine bk ?_ ?_<;>intro _<;>try exact exo)|refine stq ?_)
 refine aG.by aB T0 (λk:Nat=>⟨tmp 49 [(0,.str s),(3,i64 (k:Int))],⟨0,[]⟩⟩) (λk=>k<=s.length/\∀ i (h:i<s.length),i<k->wb (s[i].toNat:Int)) (λk=>s.length-k) 0 ⟨om,λ_ _ h=>om⟩ ?_ ?_
 .exact lq0
 intro k ⟨h1,h2⟩;repeat' ((conv=>whnf);first|exact kQ|(refine bk ?_ ?_<;>intro _<;>try exact exo)|refine stq ?_)
 all_goals(conv=>whnf)
 all_goals first
  | exact aD.no (λhc=>absurd (hc.2.2 k om) (by unfold wb;omega))
  | exact aD.no (λhc=>om)
  | exact aD.no (λhc=>hc.1 (List.eq_nil_of_length_eq_zero om))
  | exact aD.yes ⟨by rintro rfl;simp at *,om,bt om h2⟩
  | (refine⟨k+1,⟨om,aj om h2 (by unfold wb;omega)⟩,om,?_⟩
     exact lq0)
theorem Ei {s:Str}(hs:s.length<=9223372036854775807):Pu Tryz.prog 120 [.str s] (boo (decide (s≠[]/\s.length<=32/\yh s))):=by
 refine pv Tryz.func120 ?_;repeat' ((conv=>whnf);first|exact kQ|(refine bk ?_ ?_<;>intro _<;>try exact exo)|refine stq ?_)
 all_goals(conv=>whnf)
 all_goals first
  | exact aD.no (λhc=>om)
  | exact aD.no (λhc=>hc.1 (List.eq_nil_of_length_eq_zero om))
  | skip
 refine aG.by aB T0 (λk:Nat=>⟨tmp 49 [(0,.str s),(3,i64 (k:Int))],⟨0,[]⟩⟩) (λk=>k<=s.length/\∀ i (h:i<s.length),i<k->wb (s[i].toNat:Int)) (λk=>s.length-k) 0 ⟨om,λ_ _ h=>om⟩ ?_ ?_
 .exact lq0
 intro k ⟨h1,h2⟩;repeat' ((conv=>whnf);first|exact kQ|(refine bk ?_ ?_<;>intro _<;>try exact exo)|refine stq ?_)
 all_goals(conv=>whnf)
 all_goals first
  | exact aD.no (λhc=>absurd (hc.2.2 k om) (by unfold wb;omega))
  | exact aD.yes ⟨by rintro rfl;simp at *,om,bt om h2⟩
  | (refine⟨k+1,⟨om,aj om h2 (by unfold wb;omega)⟩,om,?_⟩
     exact lq0)
def mN (s:Str):Prop:=s≠[]/\s.length<=32/\yh s
def NV (l:List Str):Prop:=1<=l.length/\l.length<=60/\∀ i (h:i<l.length),(mN l[i]/\¬l[i]∈kw)/\¬l[i]∈l.take i
abbrev long (l:List Str):Prop:=∀ i (h:i<l.length),l[i].length<=9223372036854775807
theorem vI {l:List Str}(hl:long l):Pu Tryz.prog 141 [strs l] (boo (decide (NV l))):=by
 refine pv Tryz.func141 ?_;repeat' ((conv=>whnf);first|exact kQ|(refine bk ?_ ?_<;>intro _<;>try exact exo)|refine stq ?_)
 all_goals(conv=>whnf)
 all_goals first
  | exact aD.no (λhc=>by have:=hc.1;have:=hc.2.1;omega)
  | skip
 refine aG.by aB T0 (λk:Nat=>⟨tmp 37 [(3,.map 0),(15,strs l),(16,i64 l.length),(17,i64 (k:Int))],⟨1,[(0,.map ((l.take k).map λs=>(D.str s,boo true)))]⟩⟩)
  (λk=>k<=l.length/\∀ i (h:i<l.length),i<k->(mN l[i]/\¬l[i]∈kw)/\¬l[i]∈l.take i) (λk=>l.length-k) 0 ⟨om,λ_ _ h=>om⟩ ?_ ?_
 .exact lq [(0,_)] []
 intro k ⟨h1,h2⟩;repeat' ((conv=>whnf);first|exact kQ|(refine bk ?_ ?_<;>intro _<;>try exact exo)|refine stq ?_|refine cd (xp sd) (λ_=>?_) (λ_=>?_)|(refine fW.set (λ_ _=>?_) (λ_=>?_)<;>(try contradiction)))
 all_goals(conv=>whnf)
 all_goals first
  | exact aD.no (λhc=>by obtain⟨⟨⟨_,_,_⟩,_⟩,_⟩:=hc.2.2 k om;first|omega|contradiction|simp_all)
  | exact aD.yes ⟨om,om,bt om h2⟩
  | skip
 rename_i a1 a2 a3 a4;refine⟨k+1,⟨om,aj om h2 ⟨⟨⟨a1.2.1,om,a1.1⟩,a1.2.2⟩,a3⟩⟩,om,?_⟩;exact lq [(0,_)] []
theorem qq {n:Int}:Pk Tryz.prog 142 [i64 n] 1 (λb=>.agg [i64 n,.map b]) (λb=>[(b,.map [])]):=by
 refine Pk.of_v aB T0 Tryz.func142 rfl rfl rfl ?_;repeat' ((conv=>whnf);first|exact kQ|(refine bk ?_ ?_<;>intro _<;>try exact exo)|refine stq ?_)
 (conv=>whnf)
 exact⟨[2],rfl,⟨si,λn=>.agg (.cons (.same rfl) (.cons (.map (by simp[sgn])) .nil)),λn=>.cons (id:=2) (by simp[sgn]) rfl rfl (.map .nil) .nil⟩⟩
end
section
variable [GT]
structure Atm where
 next:List (List Int)
 marks:List (List Int)
structure Tbl where
 classes:List Str
 actions:List Int
 left:Atm
 right:Atm
abbrev atmC (a:Atm):List D:=[bU a.next,bU a.marks]
abbrev atmD (a:Atm):D:=.agg (atmC a)
abbrev gQ (t:Tbl):D:=.agg [strs t.classes,aC t.actions,bU t.left.next,bU t.left.marks,bU t.right.next,bU t.right.marks]
structure Atm.ok (a:Atm):Prop where
 next:a.next.length<=9223372036854775807
 marks:a.marks.length<=9223372036854775807
 nexts:∀ i (h:i<a.next.length),a.next[i].length<=9223372036854775807
 markss:∀ i (h:i<a.marks.length),a.marks[i].length<=9223372036854775807
structure Tbl.ok (t:Tbl):Prop where
 classes:t.classes.length<=9223372036854775807
 long:long t.classes
 actions:t.actions.length<=9223372036854775807
 left:t.left.ok
 right:t.right.ok
theorem JI {l:List Str}(hl:long l):Pu Tryz.prog 103 [.agg [strs l,aJ]] (.v (.int .i64 (if NV l then 0 else 6))):=by
 refine pv Tryz.func103 ?_;repeat' ((conv=>whnf);first|exact kQ|(refine bk ?_ ?_<;>intro _<;>try exact exo)|refine stq ?_|refine cd (vI sd) (λ_=>?_) (λ_=>?_)|refine Cll.pk qq ?_|refine aG.times aB T0 1 ?_)
 all_goals(conv=>whnf)
 all_goals first
  | exact aD.int (by simp_all)
  | skip
def RowQ (l:List Int) (n:Int):Prop:=∀ j (h:j<l.length),0<=l[j]/\l[j]<n
def ls (m:List Int) (j:Nat):Int:=if j=0 then -1 else m.getD (j-1) 0
def MkQ (m:List Int) (r:Int):Prop:=∀ j (h:j<m.length),ls m j<m[j]/\m[j]<r
def Sd (a:Atm) (c r:Int):Prop:=1<=a.next.length/\a.next.length<=400/\a.marks.length=a.next.length /\
 ∀ i (h:i<a.next.length),(a.next[i].length:Int)=c/\RowQ a.next[i] a.next.length/\MkQ (a.marks.getD i []) r
theorem jV {m:List Int}{j:Nat}(h:j<m.length):ls m (j+1)=m[j]:=by
 simp[ls,List.getD,List.getElem?_eq_getElem h]
theorem As {a:Atm}{c r:Int}(ha:a.ok) (hr:r<=9223372036854775807):Pu Tryz.prog 104 [atmD a,i64 c,i64 r] (boo (decide (Sd a c r))):=by
 have ha1:=ha.next;have ha2:=ha.marks;have hl:=ha.nexts;have hl2:=ha.markss;refine pv Tryz.func104 ?_;repeat' ((conv=>whnf);first|exact kQ|(refine bk ?_ ?_<;>intro _<;>try exact exo)|refine stq ?_)
 all_goals(conv=>whnf)
 all_goals first
  | exact aD.no (λhc=>by have:=hc.1;have:=hc.2.1;have:=hc.2.2.1;omega)
  | skip
 refine aG.by aB T0 (λk:Nat=>⟨tmp 79 [(1,i64 c),(2,i64 r),(3,.ptr 0 0),(7,i64 a.next.length),(32,bU a.next),(33,i64 a.next.length),(34,i64 (k:Int))],⟨1,[(0,.cells [bU a.next,bU a.marks] true)]⟩⟩)
  (λk=>k<=a.next.length/\∀ i (h:i<a.next.length),i<k->(a.next[i].length:Int)=c/\RowQ a.next[i] a.next.length/\MkQ (a.marks.getD i []) r) (λk=>a.next.length-k) 0 ⟨om,λ_ _ h=>om⟩ ?_ ?_
 .exact lq [(0,_)] []
 intro k ⟨h1,h2⟩;repeat' ((conv=>whnf);first|exact kQ|(refine bk ?_ ?_<;>intro _<;>try exact exo)|refine stq ?_)
 all_goals(conv=>whnf)
 all_goals first
  | exact aD.no (λhc=>by have:=(hc.2.2.2 k om).1;omega)
  | exact aD.yes ⟨om,om,om,bt om h2⟩
  | skip
 rename_i a1 a2
 refine aG.by aB T0 (λj:Nat=>⟨tmp 79 [(1,i64 c),(2,i64 r),(3,.ptr 0 0),(7,i64 a.next.length),(8,i64 (k:Int)),(32,bU a.next),(33,i64 a.next.length),(34,i64 (k:Int)),(43,aC a.next[k]),(44,i64 a.next[k].length),(45,i64 (j:Int))],⟨1,[(0,.cells [bU a.next,bU a.marks] true)]⟩⟩)
  (λj=>j<=a.next[k].length/\∀ i (h:i<a.next[k].length),i<j->0<=a.next[k][i]/\a.next[k][i]<a.next.length) (λj=>a.next[k].length-j) 0 ⟨om,λ_ _ h=>om⟩ ?_ ?_
 .exact lq [(0,_)] []
 intro j ⟨h3,h4⟩;have h5:=hl k om;repeat' ((conv=>whnf);first|exact kQ|(refine bk ?_ ?_<;>intro _<;>try exact exo)|refine stq ?_)
 all_goals(conv=>whnf)
 all_goals first
  | exact aD.no (λhc=>by have:=(hc.2.2.2 k om).2.1 j om;omega)
  | (refine⟨j+1,⟨om,aj om h4 ⟨om,om⟩⟩,om,?_⟩
     exact lq [(0,_)] [])
  | skip
 have h6:k<a.marks.length:=om;have h7:=hl2 k h6
 refine aG.by aB T0 (λi:Nat=>⟨tmp 79 [(1,i64 c),(2,i64 r),(3,.ptr 0 0),(7,i64 a.next.length),(12,i64 (ls a.marks[k] i+1)),(32,bU a.next),(33,i64 a.next.length),(34,i64 (k:Int)),(61,aC a.marks[k]),(62,i64 a.marks[k].length),(63,i64 (i:Int))],⟨1,[(0,.cells [bU a.next,bU a.marks] true)]⟩⟩)
  (λi=>(i<=a.marks[k].length/\ -1<=ls a.marks[k] i)/\∀ n (h:n<a.marks[k].length),n<i->ls a.marks[k] n<a.marks[k][n]/\a.marks[k][n]<r) (λi=>a.marks[k].length-i) 0 ⟨⟨om,by simp[ls]⟩,λ_ _ h=>om⟩ ?_ ?_
 .exact lq [(0,_)] []
 intro i ⟨⟨h8,h10⟩,h9⟩;repeat' ((conv=>whnf);first|exact kQ|(refine bk ?_ ?_<;>intro _<;>try exact exo)|refine stq ?_)
 all_goals(conv=>whnf)
 all_goals first
  | exact aD.no (λhc=>by have:=(hc.2.2.2 k om).2.2 i (by rw[aH h6];omega);simp only[aH h6] at this;omega)
  | (have e:ls a.marks[k] (i+1)=a.marks[k][i]:=jV om
     refine⟨i+1,⟨⟨om,om⟩,aj om h9 ⟨om,om⟩⟩,om,?_⟩
     exact lq [(0,_)] [])
  | (refine⟨k+1,⟨om,aj om h2 ⟨a2,bt om h4,by rw[aH h6];exact bt om h9⟩⟩,om,?_⟩
     exact lq [(0,_)] [])
def TV (t:Tbl):Prop:=NV t.classes/\t.actions.length<=100/\(∀ i (h:i<t.actions.length),1<=t.actions[i]/\t.actions[i]<=3)/\Sd t.left t.classes.length t.actions.length/\Sd t.right t.classes.length t.actions.length
theorem lA {t:Tbl}(ht:t.ok):Pu Tryz.prog 79 [gQ t] (boo (decide (TV t))):=by
 have hl:=ht.long;have ha:=ht.actions;have h1:=ht.left;have h2:=ht.right;refine pv Tryz.func79 ?_;repeat' ((conv=>whnf);first|exact kQ|(refine bk ?_ ?_<;>intro _<;>try exact exo)|refine stq ?_|refine Cll.iteI (JI asm) (λ_=>?_) (λ_=>?_))
 all_goals(conv=>whnf)
 all_goals first
  | exact aD.no (λhc=>by have:=hc.1;have:=hc.2.1;first|contradiction|omega)
  | skip
 refine aG.by aB T0 (λk:Nat=>⟨tmp 54 [(1,.ptr 0 0),(17,aC t.actions),(18,i64 t.actions.length),(19,i64 (k:Int))],⟨1,[(0,.cells [strs t.classes,aC t.actions,bU t.left.next,bU t.left.marks,bU t.right.next,bU t.right.marks] true)]⟩⟩)
  (λk=>k<=t.actions.length/\∀ i (h:i<t.actions.length),i<k->1<=t.actions[i]/\t.actions[i]<=3) (λk=>t.actions.length-k) 0 ⟨om,λ_ _ h=>om⟩ ?_ ?_
 .exact lq [(0,_)] []
 intro k ⟨h3,h4⟩;repeat' ((conv=>whnf);first|exact kQ|(refine bk ?_ ?_<;>intro _<;>try exact exo)|refine stq ?_|refine cd (As (a:=t.left) asm om) (λ_=>?_) (λ_=>?_)|refine cd (As (a:=t.right) asm om) (λ_=>?_) (λ_=>?_)|fail)
 all_goals(conv=>whnf)
 all_goals first
  | exact aD.no (λhc=>by have:=hc.2.2.1 k om;omega)
  | exact aD.no (λhc=>by have:=hc.2.2.2;simp_all)
  | exact aD.yes ⟨asm,om,bt om h4,asm,asm⟩
  | (refine⟨k+1,⟨om,aj om h4 ⟨om,om⟩⟩,om,?_⟩
     exact lq [(0,_)] [])
end
section
theorem xQ3.rdX {p:Prop}(h:p:=by first|exact Rd.eqd (zP rfl) (aM _)|fail):p:=h
theorem xQ3.rbX {p:Prop}(h:p:=by first|exact Rb.cells (Rds.eqs e2 (ab (λ_=>rfl))) rfl|exact Rb.cells (Rds.eqs (a8 om (λi _=>by first|(by_cases h0:i=0<;>simp[h0,stL];done)|fail)) (ab (λ_=>rfl))) rfl|exact Rb.cells (Rds.eqs (a8 om (λi hi=>by first|(by_cases h0:l.length<=i<;>simp[h0,stR];done)|fail)) (ab (λ_=>rfl))) rfl|fail):p:=h
open xQ3
variable [GT]
def CL (l:List Int) (c:Int):Prop:=∀ i (h:i<l.length),0<=l[i]/\l[i]<c
def nxt (nx:List (List Int)) (s c:Int):Int:=(nx.getD s.toNat []).getD c.toNat 0
def stL (nx:List (List Int)) (l:List Int):Nat->Int
 | 0=>0
 | k+1=>nxt nx (stL nx l k) (l.getD k 0)
def stR (nx:List (List Int)) (l:List Int):Nat->Int
 | 0=>0
 | j+1=>nxt nx (stR nx l j) (l.getD (l.length-1-j) 0)
def SL (nx:List (List Int)) (l:List Int):List Int:=(List.range (l.length+1)).map (stL nx l)
def SR (nx:List (List Int)) (l:List Int):List Int:=(List.range (l.length+1)).map λi=>stR nx l (l.length-i)
theorem tQ {a:Atm}{c r:Int}(h:Sd a c r){s x:Int}(hs:0<=s/\s<a.next.length) (hx:0<=x/\x<c):0<=nxt a.next s x/\nxt a.next s x<a.next.length:=by
 have h1:=h.2.2.2 s.toNat om;unfold nxt;rw[aH (show s.toNat<a.next.length by omega),aH om];exact h1.2.1 _ _
theorem nt {a:Atm}{c r:Int}(h:Sd a c r){l:List Int}(hl:CL l c):∀ k,k<=l.length->0<=stL a.next l k/\stL a.next l k<a.next.length
 | 0,_=>by have:=h.1;simp only[stL];omega
 | k+1,hk=>by
  simp only[stL];rw[aH (show k<l.length by omega)];exact tQ h (nt h hl k om) (hl k _)
theorem lB {a:Atm}{c r:Int}(h:Sd a c r){l:List Int}(hl:CL l c):∀ k,k<=l.length->0<=stR a.next l k/\stR a.next l k<a.next.length
 | 0,_=>by have:=h.1;simp only[stR];omega
 | k+1,hk=>by
  simp only[stR];rw[aH (show l.length-1-k<l.length by omega)];exact tQ h (lB h hl k om) (hl _ _)
theorem A9 {nx:List (List Int)}{s x:Int}(h1:s.toNat<nx.length) (h2:x.toNat<nx[s.toNat].length):nx[s.toNat][x.toNat]=nxt nx s x:=by
 unfold nxt;rw[aH h1,aH h2]
theorem Fs {t:Tbl}{l:List Int}(ht:t.ok) (hx:l.length<=1000):Pu Tryz.prog 144 [gQ t,aC l] (boo (decide (CL l t.classes.length/\TV t))):=by
 refine pv Tryz.func144 ?_;repeat' ((conv=>whnf);first|exact kQ|(refine bk ?_ ?_<;>intro _<;>try exact exo)|refine stq ?_)
 refine aG.by aB T0 (λk:Nat=>⟨tmp 25 [(2,.ptr 0 0),(7,aC l),(8,i64 l.length),(9,i64 (k:Int))],⟨1,[(0,.cells [strs t.classes,aC t.actions,bU t.left.next,bU t.left.marks,bU t.right.next,bU t.right.marks] true)]⟩⟩)
  (λk=>k<=l.length/\∀ i (h:i<l.length),i<k->0<=l[i]/\l[i]<t.classes.length) (λk=>l.length-k) 0 ⟨om,λ_ _ h=>om⟩ ?_ ?_
 .exact lq [(0,_)] []
 intro k ⟨h3,h4⟩;repeat' ((conv=>whnf);first|exact kQ|(refine bk ?_ ?_<;>intro _<;>try exact exo)|refine stq ?_|refine cd (lA sd) (λ_=>?_) (λ_=>?_)|fail)
 all_goals(conv=>whnf)
 all_goals first
  | exact aD.no (λhc=>by have:=hc.1 k om;omega)
  | exact aD.no (λhc=>by have:=hc.2;contradiction)
  | exact aD.yes ⟨bt om h4,asm⟩
  | (refine⟨k+1,⟨om,aj om h4 ⟨om,om⟩⟩,om,?_⟩
     exact lq [(0,_)] [])
def okL (t:Tbl) (l:List Int):Prop:=CL l t.classes.length/\TV t
theorem Left_c {t:Tbl}{l:List Int}(ht:t.ok) (hx:l.length<=1000):Pu Tryz.prog 105 [gQ t,aC l] (aC (if okL t l then SL t.left.next l else [])):=by
 refine pv Tryz.func105 ?_;repeat' ((conv=>whnf);first|exact kQ|(refine bk ?_ ?_<;>intro _<;>try exact exo)|refine stq ?_|refine cd (Fs sd sd) (λ_=>?_) (λ_=>?_)|fail)
 all_goals(conv=>whnf)
 .rename_i hv;have hv':okL t l:=hv;rw[if_pos hv'];have hc:=hv.1;have hs:=hv.2.2.2.2.1
  refine aG.by aB T0 (λk:Nat=>⟨tmp 41 [(2,.ptr 0 0),(5,.sl 1 0 (l.length+1) (l.length+1) 1 true),(16,aC l),(17,i64 l.length),(18,i64 (k:Int))],⟨2,[(0,.cells [strs t.classes,aC t.actions,bU t.left.next,bU t.left.marks,bU t.right.next,bU t.right.marks] true),(1,.cells (aT (l.length+1) λi=>i64 (if i<=k then stL t.left.next l i else 0)) true)]⟩⟩)
   (λk=>k<=l.length) (λk=>l.length-k) 0 om ?_ ?_
  .exact lq [(0,_),(1,_)] []
  intro k h3;by_cases hk:k<l.length
  .have h4:=hc k hk;have h5:=nt hs hc k om;have h6:=hs.2.2.2 (stL t.left.next l k).toNat om;repeat' ((conv=>whnf);first|exact kQ|(refine bk ?_ ?_<;>intro _<;>try exact exo)|refine stq ?_|refine ac.by aB T0 [0,0,2,0,8,24,0,0,192,448,1016,2040,0,8184,16376,32767,65535] (by kernel_rfl) ?_|refine Get.F (k:=k) om (by rw[if_pos (kP k)]) ?_|refine Idx.at (stL t.left.next l k).toNat om om ?_|refine Idx.at l[k].toNat om om ?_|refine bT.at (k+1) om om ?_|refine Put.one (by simp;omega) ?_)
   (conv=>whnf)
   have e1:stL t.left.next l (k+1)=t.left.next[(stL t.left.next l k).toNat][l[k].toNat]:=by simp only[stL];rw[aH hk,A9]
   have e2:(aT (l.length+1) λi=>i64 (if i<=k then stL t.left.next l i else 0)).set (k+1) (i64 t.left.next[(stL t.left.next l k).toNat][l[k].toNat])=aT (l.length+1) λi=>i64 (if i<=k+1 then stL t.left.next l i else 0):=by
    refine bG ?_ λi _ hi=>?_
    .simp only[kP,if_true,e1]
    .by_cases h0:i<=k
     .simp only[h0,if_true,show i<=k+1 from om]
     .simp only[h0,if_false,show ¬i<=k+1 from om]
   refine⟨k+1,om,om,?_⟩;exact lq [(0,_),(1,_)] []
  .repeat' ((conv=>whnf);first|exact kQ|(refine bk ?_ ?_<;>intro _<;>try exact exo)|refine stq ?_)
   (conv=>whnf)
   refine aD.frz1 (l:=SL t.left.next l) (f:=i64) rfl ?_ (by simp[SL]) (λ_=>rfl) rfl;simp only[SL,aT,List.map_map];exact List.map_congr_left λi hi=>by simp at hi;simp[show i<=k by omega]
 .rename_i hv;rw[if_neg (show ¬okL t l from hv)];exact⟨.nil⟩
theorem I8 {t:Tbl}{l:List Int}(ht:t.ok) (hx:l.length<=1000):Pu Tryz.prog 106 [gQ t,aC l] (aC (if okL t l then SR t.right.next l else [])):=by
 refine pv Tryz.func106 ?_;repeat' ((conv=>whnf);first|exact kQ|(refine bk ?_ ?_<;>intro _<;>try exact exo)|refine stq ?_|refine cd (Fs sd sd) (λ_=>?_) (λ_=>?_)|fail)
 all_goals(conv=>whnf)
 .rename_i hv;have hv':okL t l:=hv;rw[if_pos hv'];have hc:=hv.1;have hs:=hv.2.2.2.2.2
  refine aG.by aB T0 (λj:Nat=>⟨tmp 42 [(1,aC l),(2,.ptr 0 0),(5,.sl 1 0 (l.length+1) (l.length+1) 1 true),(6,i64 ((l.length:Int)-1-j))],⟨2,[(0,.cells [strs t.classes,aC t.actions,bU t.left.next,bU t.left.marks,bU t.right.next,bU t.right.marks] true),(1,.cells (aT (l.length+1) λi=>i64 (if l.length-j<=i then stR t.right.next l (l.length-i) else 0)) true)]⟩⟩)
   (λj=>j<=l.length) (λj=>l.length-j) 0 om ?_ ?_
  .exact lq [(0,_),(1,_)] []
  intro j h3;by_cases hk:j<l.length
  .have h4:=hc (l.length-1-j) om;have h5:=lB hs hc j om;have h6:=hs.2.2.2 (stR t.right.next l j).toNat om;repeat' ((conv=>whnf);first|exact kQ|(refine bk ?_ ?_<;>intro _<;>try exact exo)|refine stq ?_|refine ac.by aB T0 [0,0,0,4,12,0,0,64,224,480,1020,2044,0,0,12288,28672,65532,131068,262143,524287] (by kernel_rfl) ?_|refine bT.at (l.length-j) om om ?_|refine bT.at (l.length-1-j) om om ?_|refine Get.F (k:=l.length-j) (d:=i64 (stR t.right.next l j)) om (by rw[if_pos (kP _),show l.length-(l.length-j)=j from om]) ?_|refine Idx.at (stR t.right.next l j).toNat om om ?_|refine Idx.at (l.length-1-j) om om ?_|refine Idx.at (l[l.length-1-j]'(by omega)).toNat om om ?_|refine Put.one (by simp;omega) ?_)
   (conv=>whnf)
   have e1:stR t.right.next l (j+1)=t.right.next[(stR t.right.next l j).toNat][(l[l.length-1-j]'(by omega)).toNat]:=by simp only[stR];rw[aH (show l.length-1-j<l.length by omega),A9]
   have e2:(aT (l.length+1) λi=>i64 (if l.length-j<=i then stR t.right.next l (l.length-i) else 0)).set (l.length-1-j) (i64 t.right.next[(stR t.right.next l j).toNat][(l[l.length-1-j]'(by omega)).toNat])=aT (l.length+1) λi=>i64 (if l.length-(j+1)<=i then stR t.right.next l (l.length-i) else 0):=by
    refine bG ?_ λi _ hi=>?_
    .simp only[show l.length-(j+1)<=l.length-1-j from om,if_true,show l.length-(l.length-1-j)=j+1 from om,e1]
    .by_cases h0:l.length-j<=i
     .simp only[h0,if_true,show l.length-(j+1)<=i from om]
     .simp only[h0,if_false,show ¬l.length-(j+1)<=i from om]
   refine⟨j+1,om,om,?_⟩;exact lq [(0,_),(1,_)] []
  .repeat' ((conv=>whnf);first|exact kQ|(refine bk ?_ ?_<;>intro _<;>try exact exo)|refine stq ?_)
   (conv=>whnf)
   refine aD.frz1 (l:=SR t.right.next l) (f:=i64) rfl ?_ (by simp[SR]) (λ_=>rfl) rfl;simp only[SR,aT,List.map_map];exact List.map_congr_left λi hi=>by simp at hi;simp[show l.length-j<=i by omega]
 .rename_i hv;rw[if_neg (show ¬okL t l from hv)];exact⟨.nil⟩
def iB (x y:Int):Int:=if x<y then -1 else if y<x then 1 else 0
theorem jc {x y:Int}:Pu Tryz.prog 181 [i64 x,i64 y] (i64 (iB x y)):=by
 refine pv Tryz.func181 ?_;repeat' ((conv=>whnf);first|exact kQ|(refine bk ?_ ?_<;>intro _<;>try exact exo)|refine stq ?_|refine cp BN ?_|fail)
 all_goals(conv=>whnf)
 all_goals exact aD.int (by unfold iB;(repeat' split)<;>omega)
abbrev asc (l:List Int):Prop:=l.Pairwise (· < ·)
noncomputable def fc (a b:List Int):Option Int:=a.find? λm=>decide (m∈b)
def fcD:Option Int->D
 | some r=>.tup [i64 r,boo true]
 | none=>.tup [i64 0,boo false]
theorem fc_eq {x:Int}{xs ys:List Int}:fc (x::xs) (x::ys)=some x:=by simp[fc]
theorem fc_lt {x y:Int}{xs ys:List Int}(h:x<y) (hb:asc (y::ys)):fc (x::xs) (y::ys)=fc xs (y::ys):=by
 unfold fc;rw[List.find?_cons_of_neg];simp only[decide_eq_true_eq,kH,not_or];refine⟨om,λhm=>?_⟩;have:=(List.pairwise_cons.1 hb).1 x hm
 omega
theorem fc_gt {x y:Int}{xs ys:List Int}(h:y<x) (ha:asc (x::xs)):fc (x::xs) (y::ys)=fc (x::xs) ys:=by
 unfold fc
 have key:∀ l:List Int,(∀ m∈l,y<m)->l.find? (λm=>decide (m∈y::ys))=l.find? (λm=>decide (m∈ys)):=by
  intro l
  induction l with
  | nil=>intro _;rfl
  | cons z zs ih=>
   intro hz;have h1:=hz z si
   have e:decide (z∈y::ys)=decide (z∈ys):=by
    rw[decide_eq_decide,kH];exact⟨λh=>h.resolve_left om,.inr⟩
   simp only[List.find?_cons,e,ih λm hm=>hz m (by simp[hm])]
 refine key _ λm hm=>?_
 rcases List.mem_cons.1 hm with rfl|hm
 .exact h
 .have:=(List.pairwise_cons.1 ha).1 m hm;omega
theorem zP {x:Int}{xs:List Int}{sz:Nat}(hs:sz=1):D.imm (((x::xs).length:Int)-1).toNat ((((x::xs).map i64).drop ((1:Int).toNat*sz)).take ((((x::xs).length:Int)-1).toNat*sz))=aC xs:=by
 subst hs;simp[lst];rw[kE si]
theorem sY {a b:List Int}(ha:asc a) (hb:asc b):Pu Tryz.prog 145 [aC a,aC b] (fcD (fc a b)):=by
 refine pv Tryz.func145 ?_;repeat' ((conv=>whnf);first|exact kQ|(refine bk ?_ ?_<;>intro _<;>try exact exo)|refine stq ?_)
 (conv=>whnf)
 refine aG.by2 aB T0 (λa' b':List Int=>⟨tmp 34 [(0,aC a'),(1,aC b')],⟨0,[]⟩⟩)
  (λa' b'=>asc a'/\asc b'/\fc a' b'=fc a b) (λa' b'=>a'.length+b'.length) a b ⟨ha,hb,rfl⟩ ?_ ?_
 .exact lq0
 intro a' b' ⟨h1,h2,h3⟩;rw[<-h3];have hn0:([]:List Int).length=0:=rfl;cases a' with
 | nil=>
  rw[show fc [] b'=none from rfl];repeat' ((conv=>whnf);first|exact kQ|(refine bk ?_ ?_<;>intro _<;>try exact exo)|refine stq ?_)
  (conv=>whnf)
  exact aD.same rfl rfl
 | cons x xs=>
  have hxl:(x::xs).length=xs.length+1:=rfl;cases b' with
  | nil=>
   have e:fc (x::xs) []=none:=by simp[fc]
   rw[e];repeat' ((conv=>whnf);first|exact kQ|(refine bk ?_ ?_<;>intro _<;>try exact exo)|refine stq ?_)
   (conv=>whnf)
   exact aD.same rfl rfl
  | cons y ys=>
   have hyl:(y::ys).length=ys.length+1:=rfl;repeat' ((conv=>whnf);first|exact kQ|(refine bk ?_ ?_<;>intro _<;>try exact exo)|refine stq ?_|refine cp jc ?_|refine Idx.at 0 rfl om ?_|refine Chk.mk ⟨om,om,om,by rw[List.length_map];exact(Nat.mul_one _).symm⟩ ?_)
   all_goals(conv=>whnf)
   .rename_i h0;have e:x=y:=by have h0':iB x y=0:=h0;unfold iB at h0';(repeat' split at h0')<;>omega
    rw[e,fc_eq,<-e];exact aD.same rfl rfl
   .rename_i h0;have e:x<y:=by have h0':iB x y = -1:=h0;unfold iB at h0';(repeat' split at h0')<;>omega
    refine⟨xs,y::ys,⟨(List.pairwise_cons.1 h1).2,h2,by rw[fc_lt e h2]⟩,om,?_⟩;exact lq0
   .rename_i h0 h0n;have e:y<x:=by have h0':¬iB x y=0:=h0;have h0'':¬iB x y = -1:=h0n;unfold iB at h0' h0'';(repeat' split at h0')<;>simp_all
    refine⟨x::xs,ys,⟨h1,(List.pairwise_cons.1 h2).2,by rw[fc_gt e h1]⟩,om,?_⟩;exact lq0
theorem mk_low {m:List Int}{r:Int}(h:MkQ m r):∀ j (hj:j<m.length),0<=m[j]:=by
 intro j
 induction j with
 | zero=>intro hj;have:=(h 0 hj).1;simp[ls] at this;omega
 | succ j ih=>
  intro hj;have h1:=(h (j+1) hj).1;rw[jV om] at h1;have:=ih om
  omega
theorem FF {m:List Int}{r:Int}(h:MkQ m r):asc m:=by
 rw[asc,List.pairwise_iff_getElem];intro i j hi hj hij
 have key:∀ d,∀ hd:i+d+1<m.length,m[i]<m[i+d+1]:=by
  intro d
  induction d with
  | zero=>intro hd;have:=(h (i+0+1) hd).1;rw[jV om] at this;exact this
  | succ d ih=>
   intro hd;have h1:=ih om;have h2:=(h (i+(d+1)+1) hd).1;rw[jV om] at h2;have e:i+(d+1)=i+d+1:=by omega
   simp only[e] at h2 ⊢;omega
 have:=key (j-i-1) om
 have e:i+(j-i-1)+1=j:=by omega
 simpa only[e] using this
theorem mk_mem {m:List Int}{r x:Int}(h:MkQ m r) (hx:x∈m):0<=x/\x<r:=by
 obtain⟨j,hj,rfl⟩:=List.mem_iff_getElem.1 hx;exact⟨mk_low h j hj,(h j hj).2⟩
theorem fc_mem {a b:List Int}{r:Int}(h:fc a b=some r):r∈a/\r∈b:=⟨List.mem_of_find?_eq_some h,by simpa using List.find?_some h⟩
noncomputable def rh (t:Tbl) (x y:Int):Option Int:=fc (t.left.marks.getD x.toNat []) (t.right.marks.getD y.toNat [])
def DK (t:Tbl):Option Int->Int
 | some r=>t.actions.getD r.toNat 0
 | none=>2
def decI:Option Int->Int
 | some r=>r
 | none=>-1
theorem F7 {t:Tbl}{x y:Int}(hv:TV t) (hx:0<=x/\x<t.left.next.length) (hy:0<=y/\y<t.right.next.length):Pu Tryz.prog 107 [gQ t,i64 x,i64 y] (.tup [i64 (DK t (rh t x y)),i64 (decI (rh t x y))]):=by
 have hl:=hv.2.2.2.1;have hr:=hv.2.2.2.2;have el:=hl.2.2.1;have er:=hr.2.2.1;have ml:=(hl.2.2.2 x.toNat om).2.2;have mr:=(hr.2.2.2 y.toNat om).2.2;have gl:t.left.marks.getD x.toNat []=t.left.marks[x.toNat]'(by omega):=aH om;have gr:t.right.marks.getD y.toNat []=t.right.marks[y.toNat]'(by omega):=aH om;rw[gl] at ml;rw[gr] at mr;have hfc:=sY (FF ml) (FF mr);have hdo:rh t x y=fc (t.left.marks[x.toNat]'(by omega)) (t.right.marks[y.toNat]'(by omega)):=by rw[rh,gl,gr]
 rw[hdo];generalize hq:fc (t.left.marks[x.toNat]'(by omega)) (t.right.marks[y.toNat]'(by omega))=q at hfc;refine pv Tryz.func107 ?_;cases q with
 | none=>
  repeat' ((conv=>whnf);first|exact kQ|(refine bk ?_ ?_<;>intro _<;>try exact exo)|refine stq ?_|refine Idx.at x.toNat om om ?_|refine Idx.at y.toNat om om ?_|refine cp hfc ?_|fail)
  (conv=>whnf)
  exact aD.same rfl rfl
 | some r=>
  have hrr:=mk_mem ml (fc_mem hq).1;repeat' ((conv=>whnf);first|exact kQ|(refine bk ?_ ?_<;>intro _<;>try exact exo)|refine stq ?_|refine Idx.at x.toNat om om ?_|refine Idx.at y.toNat om om ?_|refine cp hfc ?_|refine Idx.at r.toNat om om ?_)
  (conv=>whnf)
  exact aD.same rfl (by simp only[DK,decI];rw[show t.actions.getD r.toNat 0=t.actions[r.toNat]'(by omega) from aH om];rfl)
noncomputable def acts (t:Tbl) (l:List Int):List Int:=(List.range (l.length+1)).map λi=>DK t (rh t (stL t.left.next l i) (stR t.right.next l (l.length-i)))
theorem De {t:Tbl}{l:List Int}{k:Nat}(h:k<l.length+1):(acts t l).take (k+1)=(acts t l).take k++[DK t (rh t (stL t.left.next l k) (stR t.right.next l (l.length-k)))]:=by
 rw[bI (by simpa [acts] using h)];simp[acts]
theorem cm {t:Tbl}{l:List Int}:(acts t l).length=l.length+1:=by simp[acts]
theorem SL_len {nx:List (List Int)}{l:List Int}:(SL nx l).length=l.length+1:=by simp[SL]
theorem SR_len {nx:List (List Int)}{l:List Int}:(SR nx l).length=l.length+1:=by simp[SR]
theorem Gi {nx:List (List Int)}{l:List Int}{k:Nat}(h:k<(SL nx l).length):(SL nx l)[k]=stL nx l k:=by simp[SL]
theorem Gh {nx:List (List Int)}{l:List Int}{k:Nat}(h:k<(SR nx l).length):(SR nx l)[k]=stR nx l (l.length-k):=by simp[SR]
end
end Go.Proofs.YtlimkdlhldlolaaGreatDoor
