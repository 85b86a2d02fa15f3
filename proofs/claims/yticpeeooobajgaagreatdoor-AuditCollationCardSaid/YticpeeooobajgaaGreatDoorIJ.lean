/-
  The lists of weights, in plain Lean.
-/
import Derived.Test.YticpeeooobajgaaGreatDoorI2
import Derived.Test.YticpeeooobajgaaGreatDoorI5
import Derived.Test.YticpeeooobajgaaGreatDoorIE
set_option linter.unusedSectionVars false
namespace Go.Proofs.YticpeeooobajgaaGreatDoor
section
open Go Go.Am Classical
set_option linter.unusedVariables false
noncomputable def fA (vr:Int):Bool->List Elm->List (List Int)
 | _,[]=>[]
 | f,e::es=>(wgt vr f e).1::fA vr (wgt vr f e).2 es
noncomputable def qJ (vr:Int):Bool->List Elm->Bool
 | f,[]=>f
 | f,e::es=>qJ vr (wgt vr f e).2 es
theorem sq {vr:Int}:∀ (es fs:List Elm) (f:Bool),fA vr f (es++fs)=fA vr f es++fA vr (qJ vr f es) fs
 | [],_,_=>rfl
 | e::es,fs,f=>by simp only[List.cons_append,fA,qJ];rw[sq es fs]
theorem uC {vr:Int}:∀ (es fs:List Elm) (f:Bool),qJ vr f (es++fs)=qJ vr (qJ vr f es) fs
 | [],_,_=>rfl
 | e::es,fs,f=>by simp only[List.cons_append,qJ];rw[uC es fs]
theorem jB {vr:Int}:∀ (es:List Elm) (f:Bool),(fA vr f es).length=es.length
 | [],_=>rfl
 | e::es,f=>by simp only[fA,kO];rw[jB es]
theorem Bx {vr:Int}{f:Bool}{e:Elm}:(wgt vr f e).1.length=4:=by
 unfold wgt;repeat' split
 all_goals rfl
def tG (e:Elm):Prop:=(0<=e.p∧e.p<=65535)∧(0<=e.s∧e.s<=65535)∧(0<=e.t∧e.t<=65535)
theorem A8 {e:Elm}(h:jd e=0):tG e:=by
 unfold jd at h;split at h
 ·assumption
 ·exact absurd h (by decide)
theorem Bw {vr:Int}{f:Bool}{e:Elm}(hr:tG e):∀ x∈(wgt vr f e).1,0<=x∧x<=65535:=by
 unfold tG at hr;have hz:(0:Int)<=(if [e.p,e.s,e.t,0]=[0,0,0,0] then 0 else 65535)∧(if [e.p,e.s,e.t,0]=[0,0,0,0] then(0:Int) else 65535)<=65535:=by split<;>omega
 intro x hx;unfold wgt at hx;generalize(if [e.p,e.s,e.t,0]=[0,0,0,0] then(0:Int) else 65535)=z at *;repeat' split at hx
 all_goals(simp only[kH,List.not_mem_nil,or_false] at hx;omega)
theorem sn {vr:Int}:∀ (es:List Elm) (f:Bool),(∀ e∈es,tG e)->∀ w∈fA vr f es,∀ x∈w,0<=x∧x<=65535
 | [],_,_,_,hw=>absurd hw (by simp[fA])
 | e::es,f,h,w,hw=>by
  simp only[fA,kH] at hw;rcases hw with rfl|hw
  ·exact Bw (h e (List.mem_cons_self ..))
  ·exact sn es _ (λe' he=>h e' (List.mem_cons_of_mem _ he)) w hw
def gY (j:Nat) (ws:List (List Int)):List Int:=(ws.map (λw=>w.getD j 0)).filter (λx=>!decide (x=0))
theorem sk {j:Nat}{us ws:List (List Int)}:gY j (us++ws)=gY j us++gY j ws:=by simp[gY]
theorem sj {j:Nat}{w:List Int}:gY j [w]=if w.getD j 0=0 then [] else [w.getD j 0]:=by
 unfold gY;by_cases h:w.getD j 0=0
 ·rw[if_pos h];simp only[List.map_cons,List.map_nil,h];rfl
 ·rw[if_neg h];simp only[List.map_cons,List.map_nil,List.filter_cons,h,decide_false,Bool.not_false,if_true,List.filter_nil]
theorem jA {j:Nat}{ws:List (List Int)}:(gY j ws).length<=ws.length:=by
 unfold gY;exact Nat.le_trans (List.length_filter_le _ _) si
theorem zV {j:Nat}{ws:List (List Int)}(h:∀ w∈ws,∀ x∈w,0<=x∧x<=65535):∀ x∈gY j ws,0<x∧x<=65535:=by
 intro x hx;unfold gY at hx;rw[List.mem_filter,List.mem_map] at hx;obtain⟨⟨w,hw,rfl⟩,hn⟩:=hx;have hne:¬w.getD j 0=0:=by simpa using hn
 by_cases hj:j<w.length
 ·have hm:w.getD j 0∈w:=by
   rw[List.getD_eq_getElem?_getD,List.getElem?_eq_getElem hj];exact kM hj
  have:=h w hw _ hm
  omega
 ·exact absurd (by rw[List.getD_eq_getElem?_getD,List.getElem?_eq_none om];rfl) hne
noncomputable def oD (o:Opt) (es:List Elm) (j:Nat):List Int:=
 if j=1∧(fv o).bw=true then(gY j (fA (fv o).vr false es)).reverse else gY j (fA (fv o).vr false es)
noncomputable def dX (o:Opt) (es:List Elm):List (List Int):=([0,1,2,3].map (oD o es)).take (fv o).st.toNat
theorem xp {o:Opt}{es:List Elm}(h:∀ e∈es,tG e){j:Nat}:∀ x∈oD o es j,0<x∧x<=65535:=by
 intro x hx;have hp:=zV (j:=j) (sn (vr:=(fv o).vr) es false h);unfold oD at hx;split at hx
 ·exact hp x (List.mem_reverse.1 hx)
 ·exact hp x hx
theorem kg {o:Opt}{es:List Elm}(h:∀ e∈es,tG e):∀ l∈dX o es,∀ x∈l,0<x∧x<=65535:=by
 intro l hl;have:=List.mem_of_mem_take hl
 rw[List.mem_map] at this;obtain⟨j,_,rfl⟩:=this;exact xp h
theorem xq {o:Opt}{es:List Elm}{j:Nat}:(oD o es j).length<=es.length:=by
 have:=jA (j:=j) (ws:=fA (fv o).vr false es)
 rw[jB] at this;unfold oD;split
 ·rw[List.length_reverse];exact this
 ·exact this
theorem eX {o:Opt}{es:List Elm}:(dX o es).length=(fv o).st.toNat:=by
 have:=(ed o).1
 unfold dX;rw[List.length_take];simp only[List.length_map,kO,List.length_nil];omega
end
section
open Go Go.Am
set_option linter.unusedVariables false
theorem BK {a b:Int}(h:a<b):dF a b = -1:=if_pos h
theorem BJ (a b:Int):dF b a = - dF a b:=by unfold dF;repeat' split<;>omega
theorem jg:∀ (a b:List Int),bq b a = - bq a b
 | [],[]=>rfl
 | [],_::_=>rfl
 | _::_,[]=>rfl
 | x::a,y::b=>by
  simp only[bq];by_cases h:x=y
  ·rw[if_pos h,if_pos h.symm,jg a b]
  ·rw[if_neg h,if_neg (Ne.symm h),BJ]
theorem bo {x y:Int}(h:x<y) (a b:List Int):bq (x::a) (y::b) = -1:=by
 simp only[bq];rw[if_neg om,BK h]
theorem cK (x:Int) (a b:List Int):bq (x::a) (x::b)=bq a b:=if_pos rfl
def enc (m x:Int):Int:=if m<x then x+14 else x
def pk (m:Int):Nat->List Int->List Int
 | n,[]=>if n=0 then [] else [m+n-1]
 | n,x::l=>if x=m then(if n+1=8 then(m+7)::pk m 0 l else pk m (n+1) l) else(if n=0 then [] else [if x<m then m+n-1 else m+15-n])++enc m x::pk m 0 l
theorem wY {m:Int}:∀ (l:List Int) (k:Nat),1<=k->k<=7->∃ h t,pk m k l=h::t∧m+k-1<=h∧h<=m+15-k
 | [],k,h1,h2=>⟨m+k-1,[],by simp only[pk];rw[if_neg om],by omega,by omega⟩
 | x::l,k,h1,h2=>by
  simp only[pk];by_cases hx:x=m
  ·rw[if_pos hx];by_cases hk:k+1=8
   ·rw[if_pos hk];exact⟨m+7,_,rfl,by omega,by omega⟩
   ·rw[if_neg hk];obtain⟨h,t,e,a,b⟩:=wY l (k+1) om om;exact⟨h,t,e,by omega,by omega⟩
  ·rw[if_neg hx,if_neg om];by_cases hl:x<m
   ·exact⟨m+k-1,_,by rw[if_pos hl];rfl,by omega,by omega⟩
   ·exact⟨m+15-k,_,by rw[if_neg hl];rfl,by omega,by omega⟩
theorem pk_m {m:Int}(n:Nat) (hn:n<=7) (l:List Int):∃ h t,pk m n (m::l)=h::t∧m+n<=h∧h<=m+14-n:=by
 simp only[pk,if_true];by_cases hk:n+1=8
 ·rw[if_pos hk];exact⟨m+7,_,rfl,by omega,by omega⟩
 ·rw[if_neg hk];obtain⟨h,t,e,a,b⟩:=wY (m:=m) l (n+1) om om;exact⟨h,t,e,by omega,by omega⟩
theorem vp {m x y:Int}(h:x<y):enc m x<enc m y:=by unfold enc;repeat' split<;>omega
theorem DZ {m:Int}{n:Nat}(hn:n<=7){x y:Int}(h:x<y) (a b:List Int):bq (pk m n (x::a)) (pk m n (y::b)) = -1:=by
 by_cases hx:x=m
 ·subst hx;obtain⟨h1,t1,e1,b1,b2⟩:=pk_m (m:=x) n hn a;rw[e1];simp only[pk];rw[if_neg (show ¬y=x by omega)];by_cases h0:n=0
  ·rw[if_pos h0,List.nil_append];exact bo (by unfold enc;rw[if_pos h];omega) _ _
  ·rw[if_neg h0,if_neg (show ¬y<x by omega)];exact bo om _ _
 ·by_cases hy:y=m
  ·subst hy;obtain⟨h1,t1,e1,b1,b2⟩:=pk_m (m:=y) n hn b;rw[e1];simp only[pk];rw[if_neg hx];by_cases h0:n=0
   ·rw[if_pos h0,List.nil_append];exact bo (by unfold enc;rw[if_neg om];omega) _ _
   ·rw[if_neg h0,if_pos h];exact bo om _ _
  ·simp only[pk];rw[if_neg hx,if_neg hy];by_cases h0:n=0
   ·subst h0;exact bo (vp h) _ _
   ·rw[if_neg h0,if_neg h0];by_cases h1:x<m<;>by_cases h2:y<m
    ·rw[if_pos h1,if_pos h2];show bq (_::_) (_::_)=_;rw[cK];exact bo (vp h) _ _
    ·rw[if_pos h1,if_neg h2];exact bo om _ _
    ·omega
    ·rw[if_neg h1,if_neg h2];show bq (_::_) (_::_)=_;rw[cK];exact bo (vp h) _ _
theorem AD {m:Int}{n:Nat}(hn:n<=7) (y:Int) (b:List Int):bq (pk m n []) (pk m n (y::b)) = -1:=by
 by_cases hy:y=m
 ·subst hy;obtain⟨h1,t1,e1,b1,b2⟩:=pk_m (m:=y) n hn b;rw[e1];simp only[pk];by_cases h0:n=0
  ·rw[if_pos h0];rfl
  ·rw[if_neg h0];exact bo om _ _
 ·simp only[pk];rw[if_neg hy];by_cases h0:n=0
  ·rw[if_pos h0,if_pos h0];rfl
  ·rw[if_neg h0,if_neg h0];by_cases h2:y<m
   ·rw[if_pos h2];show bq (_::_) (_::_)=_;rw[cK];rfl
   ·rw[if_neg h2];exact bo om _ _
theorem mV {m:Int}:∀ (a b:List Int) (n:Nat),n<=7->bq (pk m n a) (pk m n b)=bq a b
 | [],[],n,_=>by rw[fh.2 rfl];rfl
 | [],y::b,n,hn=>AD hn y b
 | x::a,[],n,hn=>by rw[jg,AD hn x a];rfl
 | x::a,y::b,n,hn=>by
  rcases Int.lt_trichotomy x y with h|h|h
  ·rw[DZ hn h,bo h]
  ·subst h;rw[cK];simp only[pk];by_cases hx:x=m
   ·rw[if_pos hx,if_pos hx];by_cases hk:n+1=8
    ·rw[if_pos hk,if_pos hk,cK];exact mV a b 0 om
    ·rw[if_neg hk,if_neg hk];exact mV a b (n+1) om
   ·rw[if_neg hx,if_neg hx];by_cases h0:n=0
    ·subst h0;show bq (_::_) (_::_)=_;rw[cK];exact mV a b 0 om
    ·rw[if_neg h0];show bq (_::(_::_)) (_::(_::_))=_;rw[cK,cK];exact mV a b 0 om
  ·rw[jg,DZ hn h,jg (y::b),bo h]
theorem oZ {m:Int}(hm:1<=m):∀ (l:List Int) (n:Nat),n<=7->(∀ x∈l,0<x)->∀ x∈pk m n l,0<x
 | [],n,_,_,x,hx=>by
  simp only[pk] at hx;split at hx
  ·simp at hx
  ·rw[List.mem_singleton.1 hx];omega
 | y::l,n,hn,hl,x,hx=>by
  have hy:=hl y si;have hl':∀ x∈l,0<x:=λx hx=>hl x (List.mem_cons_of_mem _ hx)
  simp only[pk] at hx;split at hx
  ·split at hx
   ·rcases List.mem_cons.1 hx with rfl|hx
    ·omega
    ·exact oZ hm l 0 om hl' x hx
   ·exact oZ hm l (n+1) om hl' x hx
  ·rcases List.mem_append.1 hx with hx|hx
   ·split at hx
    ·simp at hx
    ·rw[List.mem_singleton.1 hx];split<;>omega
   ·rcases List.mem_cons.1 hx with rfl|hx
    ·unfold enc;split<;>omega
    ·exact oZ hm l 0 om hl' x hx
def Tl (s:List Int):Prop:=s=[]∨∃ t,s=0::t
theorem mt:∀ {a b s t:List Int},(∀ x∈a,0<x)->(∀ x∈b,0<x)->Tl s->Tl t->bq (a++s) (b++t)=if a=b then bq s t else bq a b
 | [],[],s,t,_,_,_,_=>by simp
 | [],y::b,s,t,_,hb,hs,_=>by
  have hy:=hb y si;rw[if_neg si];rcases hs with rfl|⟨s',rfl⟩
  ·rfl
  ·exact bo hy _ _
 | x::a,[],s,t,ha,_,_,ht=>by
  have hx:=ha x si;rw[if_neg si];rcases ht with rfl|⟨t',rfl⟩
  ·rfl
  ·rw[jg];show-bq (0::t') (x::(a++s))=1;rw[bo hx];rfl
 | x::a,y::b,s,t,ha,hb,hs,ht=>by
  have ih:=mt (a:=a) (b:=b) (s:=s) (t:=t) (λz hz=>ha z (List.mem_cons_of_mem _ hz)) (λz hz=>hb z (List.mem_cons_of_mem _ hz)) hs ht;show bq (x::(a++s)) (y::(b++t))=_;by_cases h:x=y
  ·subst h;rw[cK,cK,ih];by_cases e:a=b
   ·subst e;simp
   ·rw[if_neg e,if_neg (by simp[e])]
  ·rw[if_neg (by simp[h])];simp only[bq,if_neg h]
def jn0:List (List Int)->List Int
 | []=>[]
 | [a]=>a
 | a::l=>a++0::jn0 l
theorem xA {f:Nat->List Int->List Int}(hf:∀ i a b,bq (f i a) (f i b)=bq a b) (hp:∀ i a,(∀ x∈a,0<x)->∀ x∈f i a,0<x):∀ (la lb:List (List Int)) (i:Nat),la.length=lb.length->(∀ a∈la,∀ x∈a,0<x)->(∀ b∈lb,∀ x∈b,0<x) ->
  bq (jn0 (la.mapIdx λk a=>f (i+k) a)) (jn0 (lb.mapIdx λk a=>f (i+k) a))=bq (jn0 la) (jn0 lb)
 | [],[],i,_,_,_=>by simp[jn0]
 | [],_::_,i,h,_,_=>by simp at h
 | _::_,[],i,h,_,_=>by simp at h
 | [a],[b],i,_,_,_=>by simp only[List.mapIdx_cons,List.mapIdx_nil,jn0,Nat.add_zero];exact hf i a b
 | [_],_::_::_,i,h,_,_=>by simp at h
 | _::_::_,[_],i,h,_,_=>by simp at h
 | a::a' :: la,b::b' :: lb,i,h,ha,hb=>by
  have ih:=xA hf hp (a' :: la) (b' :: lb) (i+1) (by simpa using h) (λx hx=>ha x (List.mem_cons_of_mem _ hx)) (λx hx=>hb x (List.mem_cons_of_mem _ hx))
  have e:∀ (l:List (List Int)),(l.mapIdx λk a=>f (i+(k+1)) a)=l.mapIdx λk a=>f (i+1+k) a:=λl=>by
   congr 1;funext k a;rw[show i+(k+1)=i+1+k by omega]
  have e2:∀ (a a':List Int) (l:List (List Int)),jn0 ((a::a' :: l).mapIdx λk a=>f (i+k) a)=f i a++0::jn0 ((a' :: l).mapIdx λk a=>f (i+1+k) a):=λa a' l=>by
   rw[List.mapIdx_cons,<-e (a' :: l),List.mapIdx_cons];rfl
  rw[e2,e2,mt (hp i a (ha a si)) (hp i b (hb b si)) (.inr ⟨_,rfl⟩) (.inr ⟨_,rfl⟩),cK,ih];show _=bq (a++0::jn0 (a' :: la)) (b++0::jn0 (b' :: lb));rw[mt (ha a si) (hb b si) (.inr ⟨_,rfl⟩) (.inr ⟨_,rfl⟩),cK];by_cases hab:a=b
  ·subst hab;simp
  ·rw[if_neg hab,if_neg λh=>hab (fh.1 (by rw[<-hf i a b,h];exact fh.2 rfl)),hf]
end
section
open Go Go.Am Classical
set_option linter.unusedVariables false
abbrev cI (x:Int):List D:=[i64 x]
theorem a8 {α:Type}{i j:Nat}{c:α->List D}{l:List α}{r:List (Nat×Box)}(h:¬i=j):aV (bJ i c l++r) j=aV r j:=by
 cases l with
 | nil=>rfl
 | cons x l=>show(if i=j then _ else aV r j)=_;rw[if_neg h]
theorem b9 {α:Type}{i:Nat}{c:α->List D}{l:List α}{r:List (Nat×Box)}(hl:l≠[]):aV (bJ i c l++r) i=some (.cells (l.flatMap c) false):=by
 cases l with
 | nil=>exact absurd rfl hl
 | cons x l=>show(if i=i then _ else _)=_;rw[if_pos rfl]
theorem Bxs.ownK {h:aB}{fz:Nat->Bool}{σ:Nat->Option Nat}{α:Type}{id id':Nat}{c:α->List D}{l:List α}{rest:List (Nat×Box)}(hs:σ id'=some id) (hf:fz id=false) (hg:l≠[]->∃ cs,h.get id=some (.cells cs false)∧cs=l.flatMap c) (hn:∀ x,aJ (c x)=true) (hr:Bxs h fz σ rest):Bxs h fz σ (bJ id' c l++rest):=by
 cases l with
 | nil=>exact hr
 | cons x l=>
  obtain⟨cs,h1,rfl⟩:=hg si;exact .cons hs h1 hf (.cells (.same (aC hn _)) rfl) hr
theorem Rd.ownK {h:aB}{fz:Nat->Bool}{σ:Nat->Option Nat}{α:Type}{id id' es:Nat}{l:List α}(hs:σ id'=some id):Rd h fz σ (bG id es l) (bG id' es l):=by
 cases l with
 | nil=>exact .same rfl
 | cons x l=>exact .sl hs
theorem Rd.ownF {h:aB}{fz:Nat->Bool}{σ:Nat->Option Nat}{id:Nat}{l:List Int}(hf:fz id=true) (hg:l≠[]->h.get id=some (.cells (l.flatMap λx=>[i64 x]) false)):Rd h fz σ (bG id 1 l) (aE l):=by
 cases l with
 | nil=>exact .nil
 | cons x l=>
  refine .frz (bx:=false) (cs:=(x::l).flatMap λx=>[i64 x]) hf (hg si) (by rw[aD,List.length_map];omega) (.eqs ?_ (aN (λ_=>rfl) _));rw[aD,List.drop_zero,Nat.mul_one,kE si]
theorem Lf.perm {nb n:Nat}{tm:List D}{bs bs':List (Nat×Box)}(he:∀ i,aV bs' i=aV bs i):Lf nb ⟨tm,⟨n,bs⟩⟩ ⟨tm,⟨n,bs'⟩⟩:=⟨λcb hb c a hB hf=>by
 have hg:∀ i,aB.get ⟨n,bs'⟩ i=aB.get ⟨n,bs⟩ i:=he;have ho:∀ b,bF c ⟨n,bs'⟩ b↔bF c ⟨n,bs⟩ b:=λb=>by simp only[bF,hg]
 have R:=hf.rel;refine⟨c,rfl,⟨⟨R.size,R.fresh,λid box h=>R.live id box (by rw[<-hg];exact h),λid id' box box' b o o' h1 h2=>R.inj id id' box box' b o o' (by rw[<-hg];exact h1) (by rw[<-hg];exact h2),R.inv⟩,hf.tmps⟩,?_⟩;have g:=hB.grow
 exact⟨hB.next,hB.fresh,⟨g.keeps,g.os,g.tape,g.output,g.size,g.next,g.frame,λb h=>g.own b ((ho b).1 h),g.stable⟩,hB.φ⟩⟩
theorem aH.genS {P:Program}{ti:TI}{nb:Nat}(hm:P.follows .mixedOrders=true) (T:TOk P ti){α:Type}{x:Code}{Q:Exit->St->Prop}{s:St}(st:α->St) (I:α->Prop) (μ:α->Nat) (NX:α->St->Prop) (hN:∀ y s,NX y s->∃ y',I y'∧μ y' < μ y∧Lf nb s (st y')) (y:α) (hy:I y) (hle:Lf nb s (st y))
  (round:∀ y,I y->∃ s0,Lf nb (st y) s0∧fW P ti nb x (gE (NX y) Q) s0):aH P nb x Q s:=⟨Sv.weak hle ⟨λcb hb c a R hB hf hR=>by
 have key:∀ m y,μ y<m->I y->∀ c a R,Base nb cb hb c (st y).h->Fit c (st y) a->(∀ e s' c' a',Q e s'->Fit c' s' a'->Base nb cb hb c' s'.h->a'.defers=a.defers->R e a' c'.w)->Code.roundsIn (WF none) 0 P x R m a c.w:=by
  intro m
  induction m with
  | zero=>intro y hlt;omega
  | succ m ih=>
   intro y hlt hI c a R hB hf hR;obtain⟨s0,hl0,hr0⟩:=round y hI;refine(Sv.weak hl0 (bC hm T x _ _ hr0)).run cb hb c a _ hB hf λe s1 c1 a1 hq f1 b1 d1=>?_
   cases e with
   | normal=>
    obtain⟨y',hI',hlt',hle'⟩:=hN y s1 hq;obtain⟨c2,e2,f2,b2⟩:=hle'.le cb hb c1 a1 b1 f1;show Code.roundsIn (WF none) 0 P x R m a1 c1.w;rw[<-e2];exact ih y' om hI' c2 a1 R b2 f2 λe s3 c3 a3 hq3 f3 b3 d3=>hR e s3 c3 a3 hq3 f3 b3 (d3.trans d1)
   | _=>exact hR _ s1 c1 a1 hq f1 b1 d1
 exact wpIn_loop_rounds (μ y+1) (key _ y (Nat.lt_succ_self _) hy c a R hB hf hR)⟩⟩
structure Dp (nb:Nat) (st:Nat->Bool->List Int->List Int->List Int->List Int->St) (I:Nat->Bool->List Int->List Int->List Int->List Int->Prop) (N i:Nat) (s:St):Prop where
 ex:∃ i' f a b c d,I i' f a b c d∧N-i' < N-i∧Lf nb s (st i' f a b c d)
theorem aH.by6 {P:Program}{ti:TI}{nb:Nat}(hm:P.follows .mixedOrders=true) (T:TOk P ti){x:Code}{Q:Exit->St->Prop}{s:St}(st:Nat->Bool->List Int->List Int->List Int->List Int->St) (I:Nat->Bool->List Int->List Int->List Int->List Int->Prop) (N:Nat) (f:Bool) (a b c d:List Int) (hy:I 0 f a b c d) (hle:Lf nb s (st 0 f a b c d))
  (round:∀ i f a b c d,I i f a b c d->∃ s0,Lf nb (st i f a b c d) s0∧fW P ti nb x (gE (Dp nb st I N i) Q) s0):aH P nb x Q s:=
 aH.genS hm T (α:=Nat×Bool×List Int×List Int×List Int×List Int) (λp=>st p.1 p.2.1 p.2.2.1 p.2.2.2.1 p.2.2.2.2.1 p.2.2.2.2.2) (λp=>I p.1 p.2.1 p.2.2.1 p.2.2.2.1 p.2.2.2.2.1 p.2.2.2.2.2) (λp=>N-p.1) (λp=>Dp nb st I N p.1)
  (λ_ _ h=>let⟨i',f,a,b,c,d,h1,h2,h3⟩:=h.ex;⟨(i',f,a,b,c,d),h1,h2,h3⟩) (0,f,a,b,c,d) hy hle λp=>round p.1 p.2.1 p.2.2.1 p.2.2.2.1 p.2.2.2.2.1 p.2.2.2.2.2
theorem Lf.same {nb:Nat}{s:St}{X:St->Prop}(h:X s):∃ s0,Lf nb s s0∧X s0:=⟨s,.refl s,h⟩
def SmH (r r':List (Nat×Box)):Prop:=∀ i,aV r' i=aV r i
theorem SmH.refl (r:List (Nat×Box)):SmH r r:=λ_=>rfl
theorem SmH.cons {p:Nat×Box}{r r':List (Nat×Box)}(h:SmH r r'):SmH (p::r) (p::r'):=λi=>by
 obtain⟨j,b⟩:=p;show(if j=i then _ else _)=(if j=i then _ else _);rw[h i]
theorem g9:∀ (l r:List (Nat×Box)) (i:Nat),aV (l++r) i=(match aV l i with|some b=>some b|none=>aV r i)
 | [],r,i=>rfl
 | (j,b)::l,r,i=>by
  show(if j=i then some b else aV (l++r) i)=(match(if j=i then some b else aV l i) with|some b=>some b|none=>aV r i);by_cases h:j=i
  ·rw[if_pos h,if_pos h]
  ·rw[if_neg h,if_neg h,g9 l r i]
theorem SmH.own {α:Type}{j:Nat}{c:α->List D}{l:List α}{r r':List (Nat×Box)}(h:SmH r r'):SmH (bJ j c l++r) (bJ j c l++r'):=λi=>by rw[g9,g9,h i]
theorem SmH.swap {α:Type}{j k:Nat}{c:α->List D}{l m:List α}{r:List (Nat×Box)}(hjk:¬j=k):SmH (bJ j c l++(bJ k c m++r)) (bJ k c m++(bJ j c l++r)):=λi=>by
 by_cases h:j=i
 ·subst h;rw[a8 (λh=>hjk h.symm)];by_cases hl:l=[]
  ·subst hl;show _=aV (bJ k c m++r) j;rw[a8 (λh=>hjk h.symm)];rfl
  ·rw[b9 hl,b9 hl]
 ·by_cases h2:k=i
  ·subst h2;rw[a8 h];by_cases hm:m=[]
   ·subst hm;show aV (bJ j c l++r) k=_;rw[a8 h];rfl
   ·rw[b9 hm,b9 hm]
  ·rw[a8 h,a8 h2,a8 h2,a8 h]
theorem SmH.trans {r r' r'':List (Nat×Box)}(h:SmH r r') (k:SmH r' r''):SmH r r'':=λi=>(k i).trans (h i)
def eh (bad:List Nat) (r h:List (Nat×Box)):Prop:=∀ j b,aV r j=some b->aV h j=some b∧¬j∈bad
theorem eh.nil {bad:List Nat}{h:List (Nat×Box)}:eh bad [] h:=λj b hj=>by cases hj
theorem eh.cons {bad:List Nat}{i:Nat}{x:Box}{r h:List (Nat×Box)}(hi:bad.contains i=false) (hs:eh bad r h):eh bad ((i,x)::r) ((i,x)::h):=λj b hj=>by
 have hj:(if i=j then some x else aV r j)=some b:=hj;by_cases e:i=j
 ·subst e;exact⟨by show(if i=i then some x else _)=_;rw[if_pos rfl] at hj ⊢;exact hj,by simpa using hi⟩
 ·rw[if_neg e] at hj;exact⟨by show(if i=j then some x else aV h j)=_;rw[if_neg e];exact(hs j b hj).1,(hs j b hj).2⟩
theorem eh.skip {bad:List Nat}{i:Nat}{x:Box}{r h:List (Nat×Box)}(hs:eh (i::bad) r h):eh bad r ((i,x)::h):=λj b hj=>by
 have:=hs j b hj
 have hn:¬i=j:=λe=>this.2 (by simp[e])
 exact⟨by show(if i=j then some x else aV h j)=_;rw[if_neg hn];exact this.1,λhm=>this.2 (List.mem_cons_of_mem _ hm)⟩
theorem eh.own {bad:List Nat}{α:Type}{i:Nat}{c:α->List D}{l:List α}{r h:List (Nat×Box)}(hi:bad.contains i=false) (hs:eh bad r h):eh bad (bJ i c l++r) (bJ i c l++h):=λj b hj=>by
 rw[g9] at hj ⊢;by_cases e:i=j
 ·subst e;by_cases hl:l=[]
  ·subst hl;exact hs i b hj
  ·have h1:=b9 (i:=i) (c:=c) (r:=[]) hl;rw[List.append_nil] at h1;rw[h1] at hj ⊢;exact⟨hj,by simpa using hi⟩
 ·have h1:=a8 (c:=c) (l:=l) (r:=[]) e;rw[List.append_nil] at h1;rw[show aV (bJ i c l) j=none from h1] at hj ⊢;exact hs j b hj
theorem Cll.embS {P:Program}{g:FuncId}{ds:List D}{n:Nat}{b0:List (Nat×Box)}{d:D}{n1:Nat}{b1:List (Nat×Box)}(hp:AC1 P g ds ⟨n,b0⟩ d ⟨n1,b1⟩)
  {N:Nat} {HB:List (Nat×Box)} {DS:List D} {K:D->aB->Prop} (sl:List (Nat×Nat)) (D':D) (B1 rest:List (Nat×Box)) (hs:eh (sl.map Prod.snd) rest HB) (hok:kW n sl=true) (hd:Rds ⟨N,HB⟩ (fzn []) (lkN sl) DS ds) (hb:Bxs ⟨N,HB⟩ (fzn []) (lkN sl) b0)
  (rd:Rd ⟨n1,b1⟩ (λ_=>false) (d7 sl N n) d D') (rb:Bxs ⟨n1,b1⟩ (λ_=>false) (d7 sl N n) B1)
  (go:K D' ⟨N+(n1-n),B1++rest⟩):Cll P g DS ⟨N,HB⟩ K:=⟨_,_,AC1.embed hp sl [] hok hd hb rd rb (λj b hj=>⟨(hs j b hj).1,λa bx _ e=>by
   obtain⟨q,h1,h2⟩:=jz e
   exact(hs j b hj).2 (List.mem_map.2 ⟨q,h1,h2⟩),rfl⟩),go⟩
def lvL (ws:List (List Int)) (w:List Int) (j k:Nat):List Int:=if k<j then gY k (ws++[w]) else gY k ws
theorem wr {ws:List (List Int)}{w:List Int}{k:Nat}:lvL ws w 0 k=gY k ws:=if_neg om
theorem wq {ws:List (List Int)}{w:List Int}{k:Nat}(h:k<4):lvL ws w 4 k=gY k (ws++[w]):=if_pos h
theorem aY {ws:List (List Int)}{w:List Int}{j k:Nat}(h:¬j=k):lvL ws w (j+1) k=lvL ws w j k:=by
 unfold lvL;by_cases h1:k<j
 ·rw[if_pos h1,if_pos om]
 ·rw[if_neg h1,if_neg om]
theorem lm {ws:List (List Int)}{w:List Int}{j:Nat}(h:w.getD j 0=0):lvL ws w (j+1) j=lvL ws w j j:=by
 unfold lvL;rw[if_pos om,if_neg om,sk,sj,if_pos h,List.append_nil]
theorem gK {ws:List (List Int)}{w:List Int}{j:Nat}(h:¬w.getD j 0=0):lvL ws w (j+1) j=lvL ws w j j++[w.getD j 0]:=by
 unfold lvL;rw[if_pos om,if_neg om,sk,sj,if_neg h]
theorem nk {ws:List (List Int)}{w:List Int}{j k:Nat}:(lvL ws w j k).length<=ws.length+1:=by
 unfold lvL;split
 ·exact Nat.le_trans jA si
 ·exact Nat.le_trans jA si
end
section
open Go Go.Am Classical
set_option linter.unusedVariables false
def pend (m:Int) (k:Nat) (r:List Int):List Int:=if k=0 then [] else match r with|[]=>[m+k-1]|y::_=>[if y<m then m+k-1 else m+15-k]
theorem CJ {m:Int}{k:Nat}{r:List Int}(h:∀ y t,r=y::t->¬y=m):pk m k r=pend m k r++pk m 0 r:=by
 cases r with
 | nil=>simp only[pk,pend,if_true,List.append_nil]
 | cons y t=>
  have:=h y t rfl
  simp only[pk,pend];rw[if_neg this,if_neg this];by_cases hk:k=0
  ·simp only[if_pos hk,if_true,List.nil_append]
  ·simp only[if_neg hk,if_true,List.nil_append]
theorem vL {m:Int}{r:List Int}:∀ (c n:Nat),n<=7->pk m n (List.replicate c m++r)=List.replicate ((n+c) / 8) (m+7)++pk m ((n+c) % 8) r
 | 0,n,h=>by
  rw[List.replicate_zero,List.nil_append,Nat.add_zero,Nat.div_eq_of_lt om,Nat.mod_eq_of_lt om];rfl
 | c+1,n,h=>by
  rw[List.replicate_succ,List.cons_append];simp only[pk,if_true];by_cases h8:n+1=8
  ·rw[if_pos h8,vL c 0 om,show n+(c+1)=(0+c)+8 by omega,Nat.add_mod_right,Nat.add_div_right _ om,List.replicate_succ];rfl
  ·rw[if_neg h8,vL c (n+1) om,show n+1+c=n+(c+1) by omega]
theorem tP {m v:Int}(hv:¬v=m){r:List Int}:∀ (c:Nat),pk m 0 (List.replicate c v++r)=List.replicate c (enc m v)++pk m 0 r
 | 0=>rfl
 | c+1=>by
  rw[List.replicate_succ,List.cons_append];simp only[pk];rw[if_neg hv,tP hv c];simp only[if_true,List.nil_append,List.replicate_succ,List.cons_append]
structure jj (l:List Int) (k e:Nat):Prop where
 le:k<e∧e<=l.length
 eq:∀ j,k<=j->j<e->l.getD j 0=l.getD k 0
theorem jj.start {l:List Int}{k:Nat}(h:k<l.length):jj l k (k+1):=⟨by omega,λj h1 h2=>by rw[show j=k by omega]⟩
theorem jj.next {l:List Int}{k e:Nat}(h:jj l k e) (he:e<l.length) (hv:l.getD e 0=l.getD k 0):jj l k (e+1):=⟨by have:=h.le;omega,λj h1 h2=>by
 by_cases hj:j<e
 ·exact h.eq j h1 hj
 ·rw[show j=e by omega];exact hv⟩
theorem jj.split {l:List Int}{k e:Nat}(h:jj l k e):l.drop k=List.replicate (e-k) (l.getD k 0)++l.drop e:=by
 have hl:=h.le;have h1:=(List.take_append_drop (e-k) (l.drop k)).symm;rw[List.drop_drop,show k+(e-k)=e by omega] at h1;rw[h1];congr 1;refine List.ext_getElem (by simp;omega) λj h2 h3=>?_
 have h4:j<e-k:=by simpa using h3
 have h5:=h.eq (k+j) om om;rw[List.getElem_take,List.getElem_drop,List.getElem_replicate,<-h5,List.getD_eq_getElem?_getD,List.getElem?_eq_getElem om];rfl
theorem jj.head {l:List Int}{k e:Nat}(h:jj l k e) (hn:¬(e<l.length∧l.getD e 0=l.getD k 0)):∀ y t,l.drop e=y::t->¬y=l.getD k 0:=by
 intro y t hd hy
 have he:e<l.length:=by
  rcases Nat.lt_or_ge e l.length with h1|h1
  ·exact h1
  ·rw[List.drop_of_length_le h1] at hd;cases hd
 rw[kK he] at hd;injection hd with h1 _
 exact hn ⟨he,by rw[<-hy,<-h1,List.getD_eq_getElem?_getD,List.getElem?_eq_getElem he];rfl⟩
theorem jj.other {m:Int}{l:List Int}{k e:Nat}(h:jj l k e) (hv:¬l.getD k 0=m):pk m 0 (l.drop k)=List.replicate (e-k) (enc m (l.getD k 0))++pk m 0 (l.drop e):=by
 rw[h.split,tP hv]
theorem jj.common {m:Int}{l:List Int}{k e:Nat}(h:jj l k e) (hn:¬(e<l.length∧l.getD e 0=l.getD k 0)) (hv:l.getD k 0=m):pk m 0 (l.drop k)=List.replicate ((e-k) / 8) (m+7)++(pend m ((e-k) % 8) (l.drop e)++pk m 0 (l.drop e)):=by
 have hh:=h.head hn;rw[h.split,hv] at *;rw[vL _ 0 om,Nat.zero_add,CJ hh]
theorem fE {m:Int}{k:Nat}{l:List Int}{e:Nat}(hk:¬k=0) (he:¬e<l.length∨l.getD e 0<m):pend m k (l.drop e)=[m+k-1]:=by
 unfold pend;rw[if_neg hk];by_cases h1:e<l.length
 ·rw[kK h1];simp only;rw[if_pos (by rcases he with h2|h2;exact absurd h1 h2;rw[List.getD_eq_getElem?_getD,List.getElem?_eq_getElem h1] at h2;exact h2)]
 ·rw[List.drop_of_length_le om]
theorem jt {m:Int}{k:Nat}{l:List Int}{e:Nat}(hk:¬k=0) (he:e<l.length) (hv:¬l.getD e 0<m):pend m k (l.drop e)=[m+15-k]:=by
 unfold pend;rw[if_neg hk,kK he];simp only;rw[if_neg (by rw[List.getD_eq_getElem?_getD,List.getElem?_eq_getElem he] at hv;exact hv)]
theorem js {m:Int}{r:List Int}:pend m 0 r=[]:=if_pos rfl
theorem iM {m:Int}:∀ (l:List Int) (n:Nat),(pk m n l).length<=2*l.length+n
 | [],n=>by simp only[pk];split<;>simp;omega
 | x::l,n=>by
  simp only[pk];have h0:=iM (m:=m) l 0;have h1:=iM (m:=m) l (n+1);have hx:(x::l).length=l.length+1:=rfl;by_cases hm:x=m
  ·rw[if_pos hm];split
   ·simp only[kO];omega
   ·omega
  ·rw[if_neg hm];split
   ·simp only[List.nil_append,kO];omega
   ·simp only[List.cons_append,List.nil_append,kO];omega
end
end Go.Proofs.YticpeeooobajgaaGreatDoor
