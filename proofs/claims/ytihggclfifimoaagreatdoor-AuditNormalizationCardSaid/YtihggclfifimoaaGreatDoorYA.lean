/-
  Contracts over data: the four normalization forms.
-/
import Derived.Test.YtihggclfifimoaaGreatDoorXD
import Derived.Test.YtihggclfifimoaaGreatDoorI5
set_option linter.unusedSectionVars false
namespace Go.Proofs.YtihggclfifimoaaGreatDoor
set_option maxHeartbeats 4000000
set_option maxRecDepth 100000
section
open Go Go.Am Classical
set_option linter.unusedVariables false
def kF (f:Int):Bool:=decide (f=3∨f=4)
def cF (f:Int):Bool:=decide (f=1∨f=3)
def isF (f:Int):Prop:=f=1∨f=2∨f=3∨f=4
noncomputable def bE (n:Nm) (f:Int) (t:List Int):List Int:=if cF f=true then gi (aJ n.cl) (jn n) (bA (once n (kF f))) t else dcm (aJ n.cl) (bA (once n (kF f))) t
theorem AZ {cls:Int->Int}{jn:Int->Int->Option Int}:∀ (l q:List Int) (s:Option Int),(cz cls jn s q l).length<=s.toList.length+q.length+l.length
 | [],q,s=>by cases s<;>simp[cz]<;>omega
 | c::l,q,s=>by
  rw[cX];split
  ·have:=AZ (cls:=cls) (jn:=jn) l q (some ‹Int›)
   simp only[Option.toList,kO,List.length_nil] at *;omega
  ·split
   ·have:=AZ (cls:=cls) (jn:=jn) l [] (some c)
    simp only[Option.toList,kG,kO,List.length_nil] at *;omega
   ·have:=AZ (cls:=cls) (jn:=jn) l (q++[c]) s
    simp only[Option.toList,kG,kO,List.length_nil] at *;omega
section
variable {n n':Nm}{t:List Int}
theorem el (hG:NmG n) (f:Int) (t:List Int):(bE n f t).length<=64*t.length:=by
 have h:=iR hG (kF f) t;unfold bE;split
 ·have h2:=AZ (cls:=aJ n.cl) (jn:=jn n) (dcm (aJ n.cl) (bA (once n (kF f))) t) [] none;simp only[Option.toList,List.length_nil] at h2;show(ft _ _ _).length<=_;unfold ft;have h3:(dcm (aJ n.cl) (bA (once n (kF f))) t).length<=64*t.length:=h;omega
 ·exact h
theorem Eb (hN:eI n n') (ht:t.length<=1500):Pu Tryz.prog 71 [nmD n,aF t] (aF (d7 n' true t)):=by
 have hT:=yG (k:=true) hN ht;refine pv Tryz.func71 ?_;repeat' ((conv=>whnf);first|exact kQ|(refine bk ?_ ?_<;>intro _<;>try(exfalso;omega))|refine stq ?_|refine cp hT ?_|fail)
 all_goals(conv=>whnf)
 exact aE.same (aC _) rfl
theorem vV (hN:eI n n') (ht:t.length<=100000):Pu Tryz.prog 69 [nmD n,aF t] (aF (ft (aJ n'.cl) (jn n') t)):=by
 have hT:=Gr hN ht;refine pv Tryz.func69 ?_;repeat' ((conv=>whnf);first|exact kQ|(refine bk ?_ ?_<;>intro _<;>try(exfalso;omega))|refine stq ?_|refine cp hT ?_|fail)
 all_goals(conv=>whnf)
 exact aE.same (aC _) rfl
theorem kl {f:Int}(hf:isF f) (hN:eI n n') (ht:t.length<=1500):Pu Tryz.prog 16 [nmD n,i64 f,aF t] (aF (bE n' f t)):=by
 have h0:=Ah hN ht;have h1:=Eb hN ht;have l0:=iR hN.g false t;have l1:=iR hN.g true t;have h2:=vV (t:=d7 n' false t) hN om;have h3:=vV (t:=d7 n' true t) hN om;rcases hf with rfl|rfl|rfl|rfl
 ·refine pv Tryz.func16 ?_;repeat' ((conv=>whnf);first|exact kQ|(refine bk ?_ ?_<;>intro _<;>try(exfalso;omega))|refine stq ?_|refine cp h0 ?_|refine cp h2 ?_|fail)
  all_goals(conv=>whnf)
  exact aE.same (aC _) rfl
 ·exact GR hN ht
 ·refine pv Tryz.func16 ?_;repeat' ((conv=>whnf);first|exact kQ|(refine bk ?_ ?_<;>intro _<;>try(exfalso;omega))|refine stq ?_|refine cp h1 ?_|refine cp h3 ?_|fail)
  all_goals(conv=>whnf)
  exact aE.same (aC _) rfl
 ·refine pv Tryz.func16 ?_;repeat' ((conv=>whnf);first|exact kQ|(refine bk ?_ ?_<;>intro _<;>try(exfalso;omega))|refine stq ?_|refine cp h1 ?_|fail)
  all_goals(conv=>whnf)
  exact aE.same (aC _) rfl
theorem tC {a b:List Int}(ha:a.length<=1000000) (hb:b.length<=1000000):Pu Tryz.prog 77 [aF a,aF b] (boo (decide (a=b))):=by
 have h:=xR (a:=a) (b:=b) ha hb;refine pv Tryz.func77 ?_;repeat' ((conv=>whnf);first|exact kQ|(refine bk ?_ ?_<;>intro _<;>try(exfalso;omega))|refine stq ?_|refine cp h ?_|fail)
 all_goals(conv=>whnf)
 all_goals first
  | exact aE.yes (iz.1 asm)
  | exact aE.no (λe=>absurd (iz.2 e) asm)
theorem is_c {f:Int}(hf:isF f) (hN:eI n n') (ht:t.length<=1500):Pu Tryz.prog 23 [nmD n,i64 f,aF t] (boo (decide (bE n' f t=t))):=by
 have h0:=kl hf hN ht;have hl:=el hN.g f t;have h1:=tC (a:=bE n' f t) (b:=t) om om;refine pv Tryz.func23 ?_;repeat' ((conv=>whnf);first|exact kQ|(refine bk ?_ ?_<;>intro _<;>try(exfalso;omega))|refine stq ?_|refine cp h0 ?_|refine cp h1 ?_|fail)
 all_goals(conv=>whnf)
 all_goals exact aE.v rfl
end
end
section
open Go Go.Am Classical
set_option linter.unusedVariables false
theorem xYB.rdX {p:Prop}(h:p:=by first|exact Rd.same hnb|exact Rd.nil|exact wy rfl rfl rfl rfl|exact Rd.sl' rfl rfl rfl|exact Rd.own sim rfl sim sim|exact Rd.own sim rfl Bg Bg|exact Rd.sl' rfl sim sim|exact Rd.sl' rfl sim rfl|fail):p:=h
theorem xYB.rbX {p:Prop}(h:p:=by first|exact Rb.cells (Rds.eqs (Fy (x::xs) l[k] (-1)) (aN (λ_=>rfl) _)) rfl|exact Rb.cells (Rds.same (pR _ _)) rfl|exact Rb.cells (Rds.tr (wJ hr1) (wI hr1).symm (Rds.at .nil d.length (pR _ _))) rfl|exact Rb.cells (Rds.eqs (sC (y::ys) L[j]) (aN (λ_=>rfl) _)) rfl|exact Rb.cells (Rds.eqs (by first|(simp[cY];done)|fail) rfl) rfl|exact Rb.cells (Rds.eqs (by first|(rw[BT];simp;done)|fail) (pR _ _)) rfl|fail):p:=h
open xYB
abbrev gp (l:List Int):List Int:=eU (-1) (λc=>[c]) l
theorem GK (l:List Int) (c:Int):gp (l++[c])=gp l++[c,-1]:=by simp[gp,eU]
theorem uX:∀ l:List Int,(gp l).length=2*l.length
 | []=>rfl
 | c::l=>by rw[gp,fM];show([c]++-1::gp l).length=_;have:=uX l;simp[this];omega
def lw (s:List (List Int)×List Int) (c:Int):List (List Int)×List Int:=if c = -1 then(s.1++[s.2],[]) else(s.1,s.2++[c])
def jG (l:List Int):List (List Int)×List Int:=l.foldl lw ([],[])
theorem A7 (l:List Int) (c:Int):jG (l++[c])=lw (jG l) c:=by simp[jG]
theorem vY:∀ (l:List Int) (s:List (List Int)×List Int),(∀ c∈l,c≠-1)->l.foldl lw s=(s.1,s.2++l)
 | [],s,_=>by simp
 | c::l,s,h=>by
  rw[List.foldl_cons,lw,if_neg (h c si),vY l _ λc hc=>h c (by simp[hc])];simp
theorem nu {G:Int->List Int}:∀ (l:List Int) (d:List (List Int)),(∀ c∈l,∀ x∈G c,x≠-1)->(eU (-1) G l).foldl lw (d,[])=(d++l.map G,[])
 | [],d,_=>by simp[eU]
 | c::l,d,hG=>by
  rw[fM,List.foldl_append,vY _ _ (hG c si),List.foldl_cons,lw,if_pos rfl];rw[nu l _ λx hx=>hG x (by simp[hx])];simp
theorem iV:∀ (l:List Int) (s:List (List Int)×List Int),(l.foldl lw s).1.length=s.1.length+l.count (-1)
 | [],s=>by simp
 | c::l,s=>by
  rw[List.foldl_cons,iV l,List.count_cons];unfold lw;by_cases h:c = -1
  ·rw[if_pos h];simp[h];omega
  ·rw[if_neg h];simp[h]
theorem vX:∀ (l:List Int) (s:List (List Int)×List Int),(l.foldl lw s).2.length<=s.2.length+l.length
 | [],s=>by simp
 | c::l,s=>by
  rw[List.foldl_cons];have h:=vX l (lw s c)
  have h2:(lw s c).2.length<=s.2.length+1:=by
   unfold lw;split
   ·simp
   ·simp
  rw[kO];omega
theorem A8 {G:Int->List Int}{l:List Int}{j:Nat}(hG:∀ c∈l,∀ x∈G c,x≠-1) (h:j<(eU (-1) G l).length) (hc:(eU (-1) G l)[j] = -1):(jG ((eU (-1) G l).take j)).1.length<l.length:=by
 have h1:=iV (eU (-1) G l) ([],[]);rw[nu l [] hG] at h1;have h2:=iV ((eU (-1) G l).take j) ([],[]);have h3:(eU (-1) G l).count (-1)=((eU (-1) G l).take j).count (-1)+((eU (-1) G l).drop j).count (-1):=by rw[<-List.count_append,List.take_append_drop]
 have h4:0<((eU (-1) G l).drop j).count (-1):=by
  rw[kK h,hc,List.count_cons];simp
 simp at h1 h2;unfold jG;omega
def kX (d:List (List Int)) (n:Nat):List D:=d.map aF++List.replicate (n-d.length) aO
theorem BT (n:Nat):cx [aO] n=kX [] n:=by simp[kX,cY]
theorem mw {d:List (List Int)}{n:Nat}(h:d.length<=n):(kX d n).length=n:=by simp[kX];omega
theorem pR (d:List (List Int)) (n:Nat):aK (kX d n)=true:=by
 unfold kX;rw[fU,aN (λ_=>aC _)]
 have:∀ k:Nat,aK (List.replicate k aO)=true:=by
  intro k
  induction k with
  | zero=>rfl
  | succ k ih=>rw[List.replicate_succ];exact aD rfl ih
 rw[this];rfl
theorem wI {d:List (List Int)}{p:List Int}{n:Nat}(h:d.length<n):kX (d++[p]) n=(kX d n).set d.length (aF p):=by
 unfold kX;have e:n-d.length=(n-(d++[p]).length)+1:=by simp;omega
 rw[e,List.replicate_succ,List.set_append];simp
theorem wJ {d:List (List Int)}{n:Nat}{X:D}(h:d.length<n):splice (kX d n) (0+d.length*1) [X]=(kX d n).set d.length X:=by
 rw[Nat.zero_add,Nat.mul_one,jF (by rw[mw om];omega)]
theorem BU {d:List (List Int)}{n:Nat}(h:d.length=n):((kX d n).drop 0).take (n*1)=d.map aF:=by
 subst h;simp[kX,kE]
theorem HW {h:aB}{fz:Nat->Bool}{σ:Nat->Option Nat}{id n cap:Nat}{d:List (List Int)}{cs:List D}{ex bx:Bool}(hf:fz id=true) (hg:h.get id=some (.cells cs bx)) (hle:0+n*1<=cs.length) (ec:(cs.drop 0).take (n*1)=d.map aF) (e:n=d.length):Rd h fz σ (.sl id 0 n cap 1 ex) (iu d):=by
 subst e;exact .frz hf hg hle (.eqs ec (aN (λ_=>aC _) _))
abbrev clD (g:FuncId) (cs:List D):D:=.fn (.func g) [] [.iptr cs]
theorem nb_clD {g:FuncId}{cs:List D}(h:aK cs=true):aL (clD g cs)=true:=by simp[aL,aK,h]
theorem Fy (l:List Int) (w v:Int):(((l.map i64).drop 0).take (l.length*1))++[i64 w,i64 v]=(l++[w,v]).map i64:=by
 rw[List.drop_zero,kE si,List.map_append];rfl
section
variable {g:FuncId}{cs:List D}{G:Int->List Int}{l:List Int}
theorem Al (hcs:aK cs=true) (hl:l.length<=100) (hG:∀ c∈l,∀ x∈G c,x≠-1) (hlen:(eU (-1) G l).length<=100000) (hf:Pu Tryz.prog g [aF (gp l),.iptr cs] (aF (eU (-1) G l))):Pu Tryz.prog 154 [aF l,clD g cs] (iu (l.map G)):=by
 have hnb:=nb_clD (g:=g) hcs;refine Pu.of_v aA T0 Tryz.func154 rfl rfl (aD (aC _) (aD hnb rfl)) ?_;repeat' ((conv=>whnf);first|exact kQ|(refine bk ?_ ?_<;>intro _<;>try(exfalso;omega))|refine stq ?_)
 refine aH.by aA T0 (λk:Nat=>⟨tmp 46 [(0,aF l),(1,clD g cs),(5,fB 0 1 (gp (l.take k))),(12,aF l),(13,i64 l.length),(14,i64 (k:Int))],⟨1,ownM 0 (gp (l.take k))⟩⟩) (λk=>k<=l.length) (λk=>l.length-k) 0 om ?_ ?_
 ·exact lq0
 intro k hk;have hgl:(gp (l.take k)).length=2*k:=by rw[uX,List.length_take,Nat.min_eq_left hk]
 by_cases h:k<l.length
 ·have hsn:gp (l.take (k+1))=gp (l.take k)++[l[k],-1]:=by rw[aS h,GK]
  generalize gp (l.take k)=o at *;cases o with
  | nil=>
   repeat' ((conv=>whnf);first|exact kQ|(refine bk ?_ ?_<;>intro _<;>try(exfalso;omega))|refine stq ?_|refine Chk.growX 8 1 rfl rfl om om (by first|(simp;done)|exact kD rfl) ?_|fail)
   all_goals(conv=>whnf)
   refine⟨k+1,by omega,by omega,?_⟩;simp only[hsn,List.nil_append];exact lq [(0,8)] []
  | cons x xs=>
   have hx:(x::xs).length=xs.length+1:=rfl;repeat' ((conv=>whnf);first|exact kQ|(refine bk ?_ ?_<;>intro _<;>try(exfalso;omega))|refine stq ?_|refine Chk.growX 8 1 rfl rfl om om (by first|(simp;done)|exact kD rfl) ?_|fail)
   all_goals(conv=>whnf)
   refine⟨k+1,by omega,by omega,?_⟩;simp only[hsn];exact lq [(0,8)] []
 ·obtain rfl:k=l.length:=by omega
  rw[List.take_length] at *;generalize ho:gp l=o at *
  have hfz:Rds ⟨1,ownM 0 o⟩ (λ_=>true) (λ_=>none) [fB 0 1 o] [aF o]:=by
   cases o with
   | nil=>exact .cons .nil .nil
   | cons x xs=>exact .cons (wy rfl rfl rfl rfl) .nil
  cases o with
  | nil=>
   obtain rfl:l=[]:=by
    cases l with
    | nil=>rfl
    | cons c l=>simp[gp,eU] at ho
   have hf2:Pu Tryz.prog g [aF [],.iptr cs] (aF []):=hf;repeat' ((conv=>whnf);first|refine cm.weak (x:=Code.seq (Code.seq (Code.region 9 _ false) _) _) aA T0 (s0:=⟨tmp 46 [(1,clD g cs),(5,aF []),(8,.sl 0 0 0 0 1 true),(9,aO)],⟨1,[(0,.cells [] true)]⟩⟩) ?_ ?_|exact kQ|(refine bk ?_ ?_<;>intro _<;>try(exfalso;omega))|refine stq ?_|refine cp hf2 ?_|refine Chk.mk ⟨by simp,by simp,by simp,by simp⟩ ?_|refine aH.times aA T0 1 ?_|fail)
   ·exact lq [(0,4)] []
   all_goals(conv=>whnf)
   exact⟨HW (d:=[]) rfl rfl si rfl rfl⟩
  | cons x xs=>
   have hx:(x::xs).length=xs.length+1:=rfl;repeat' ((conv=>whnf);first|refine cm.weak (x:=Code.seq (Code.seq (Code.region 9 _ false) _) _) aA T0 (s0:=⟨tmp 46 [(1,clD g cs),(5,aF (x::xs)),(8,.sl 0 0 0 l.length 1 true),(9,aO)],⟨1,[(0,.cells (kX [] l.length) true)]⟩⟩) ?_ ?_|exact kQ|(refine bk ?_ ?_<;>intro _<;>try(exfalso;omega))|refine stq ?_|refine cp hf ?_|refine Chk.mk ⟨by omega,by omega,(by show _<=1099511627776;omega),(by show _*24<=1099511627776;omega)⟩ ?_|fail)
   ·exact lq [(0,4)] [0]
   all_goals(conv=>whnf)
   generalize hL:eU (-1) G l=L at *;have hfin:jG L=(l.map G,[]):=by rw[<-hL];exact nu l [] hG
   have hroom:∀ j (h:j<L.length),L[j] = -1->(jG (L.take j)).1.length<l.length:=by subst hL;exact λj h=>A8 hG h
   have hrm2:∀ j,(jG (L.take j)).1.length<=l.length:=λj=>by
    have h1:=iV (L.take j) ([],[]);have h2:=iV L ([],[]);have h3:L.count (-1)=(L.take j).count (-1)+(L.drop j).count (-1):=by rw[<-List.count_append,List.take_append_drop]
    have h4:(jG L).1.length=l.length:=by rw[hfin];simp
    unfold jG at h4 ⊢;simp at h1 h2;omega
   refine aH.by aA T0 (λj:Nat=>⟨tmp 46 [(8,.sl 0 0 (jG (L.take j)).1.length l.length 1 true),(9,fB 1 1 (jG (L.take j)).2),(28,aF L),(29,i64 L.length),(30,i64 (j:Int))],⟨2,(0,.cells (kX (jG (L.take j)).1 l.length) true)::ownM 1 (jG (L.take j)).2⟩⟩) (λj=>j<=L.length) (λj=>L.length-j) 0 om ?_ ?_
   ·show Lf _ _ ⟨tmp 46 [(8,.sl 0 0 0 l.length 1 true),(9,aO),(28,aF L),(29,i64 L.length),(30,i64 0)],⟨2,[(0,.cells (kX [] l.length) true)]⟩⟩;exact lq [(0,0)] []
   intro j hj;by_cases h2:j<L.length
   ·have hs1:jG (L.take (j+1))=lw (jG (L.take j)) L[j]:=by rw[aS h2,A7]
    have hr1:=hroom j h2;have hr2:=hrm2 j
    have hr3:(jG (L.take j)).2.length<=L.length:=by
     have:=vX (L.take j) ([],[])
     rw[List.length_take] at this;unfold jG;simp at this;omega
    generalize hsj:jG (L.take j)=s at *;obtain⟨d,q⟩:=s;dsimp only at hr1 hr2 hr3 ⊢;by_cases hc:L[j] = -1
    ·rw[lw,if_pos hc] at hs1;have hr1:=hr1 hc;cases q with
     | nil=>
      repeat' ((conv=>whnf);first|exact kQ|(refine bk ?_ ?_<;>intro _<;>try(exfalso;omega))|refine stq ?_|refine Chk.mk (by show 0+(d.length+1)*1<=_;rw[mw hr2];omega) ?_|fail)
      all_goals(conv=>whnf)
      refine⟨j+1,by omega,by omega,?_⟩;simp only[hs1];exact lq [(0,0)] []
     | cons y ys=>
      have hx:(y::ys).length=ys.length+1:=rfl;repeat' ((conv=>whnf);first|exact kQ|(refine bk ?_ ?_<;>intro _<;>try(exfalso;omega))|refine stq ?_|refine Chk.mk (by show 0+(d.length+1)*1<=_;rw[mw hr2];omega) ?_|fail)
      all_goals(conv=>whnf)
      refine⟨j+1,by omega,by omega,?_⟩;simp only[hs1];exact Lf.of2 [(0,0)] [1] enA (.cons rfl rfl rfl (Rb.cells (Rds.tr (wJ (X:=.sl 1 0 (y::ys).length (y::ys).length 1 false) hr1) (wI hr1).symm (Rds.at (wy rfl rfl rfl rfl) d.length (pR _ _))) rfl) .nil) rfl rfl
    ·rw[lw,if_neg hc] at hs1;cases q with
     | nil=>
      repeat' ((conv=>whnf);first|exact kQ|(refine bk ?_ ?_<;>intro _<;>try(exfalso;omega))|refine stq ?_|refine Chk.growX 8 1 rfl rfl om om (by first|(simp;done)|exact kD rfl) ?_|fail)
      all_goals(conv=>whnf)
      refine⟨j+1,by omega,by omega,?_⟩;simp only[hs1,List.nil_append];exact lq [(0,0),(1,11)] []
     | cons y ys=>
      have hx:(y::ys).length=ys.length+1:=rfl;repeat' ((conv=>whnf);first|exact kQ|(refine bk ?_ ?_<;>intro _<;>try(exfalso;omega))|refine stq ?_|refine Chk.growX 8 1 rfl rfl om om (by first|(simp;done)|exact kD rfl) ?_|fail)
      all_goals(conv=>whnf)
      refine⟨j+1,by omega,by omega,?_⟩;simp only[hs1];exact lq [(0,0),(1,11)] []
   ·obtain rfl:j=L.length:=by omega
    simp only[List.take_length,hfin];repeat' ((conv=>whnf);first|exact kQ|(refine bk ?_ ?_<;>intro _<;>try(exfalso;omega))|refine stq ?_|fail)
    all_goals(conv=>whnf)
    exact⟨HW (d:=l.map G) (cs:=kX (l.map G) l.length) rfl rfl (by rw[mw si];simp) (by rw[List.length_map];exact BU si) rfl⟩
end
end
section
open Go Go.Am Classical
set_option linter.unusedVariables false
theorem nJ {c:Int}:∀ {l:List Spn},(∀ s∈l,¬(s.lo<=c∧c<=s.hi))->aJ l c=0
 | [],_=>rfl
 | s::l,h=>by
  rw[aJ,if_neg (h s si)];exact nJ λx hx=>h x (by simp[hx])
section
variable {n:Nm}(hG:NmG n)
include hG
theorem rR {c:Int}(h:1<=hk c):aJ n.cl c=0:=nJ λs hs hc=>by
 obtain⟨i,hi,rfl⟩:=List.getElem_of_mem hs;have h1:=hG.cls.hang i hi;have h2:=aj c;unfold nI at h1;omega
theorem Ae {c:Int}(h:c<0):aJ n.cl c=0:=nJ λs hs hc=>by
 obtain⟨i,hi,rfl⟩:=List.getElem_of_mem hs;have h1:=(hG.v.cl i hi).1.1;omega
theorem fj {m:Mpg}(hm:m∈n.dc):jW m:=by
 obtain⟨i,hi,rfl⟩:=List.getElem_of_mem hm;have h:=hG.v.dc.1;unfold dI at h;split at h
 ·rename_i h1;exact h1 i hi
 ·cases h
theorem DZ {c:Int}(h:c<0) (k:Bool):once n k c=none:=by
 have hk0:=aj c;unfold once;rw[if_neg om];cases hf:fnd n.dc c with
 | none=>rfl
 | some m=>
  obtain⟨h1,h2⟩:=dv hf;have:=(fj hG h1).1.1
  omega
theorem iq {a c w:Int}(h:jn n a c=some w):(hc a c=some w)∨(hc a c=none∧∃ m∈n.dc,ci n a c m∧m.frm=w):=by
 unfold jn at h;split at h
 ·rename_i hw;exact .inl (by rw[hw];exact h)
 ·rename_i hn;refine .inr ⟨hn,?_⟩;cases hf:n.dc.find? (λm=>decide (ci n a c m)) with
  | none=>rw[hf] at h;cases h
  | some m=>
   rw[hf] at h;have h2:=List.find?_some hf;exact⟨m,List.mem_of_find?_eq_some hf,by simpa using h2,by simpa using h⟩
theorem F9 {a c w:Int}(h:jn n a c=some w):aJ n.cl w=0∧aJ n.cl a=0:=by
 rcases iq hG h with h|⟨_,m,hm,hc,rfl⟩
 ·obtain⟨h1,_,_,h2⟩:=ix h;refine⟨rR hG om,rR hG ?_⟩;rcases h2 with⟨h2,_⟩|⟨h2,_⟩<;>omega
 ·exact⟨hc.2.2.2.1,hc.2.2.2.2⟩
theorem GS {m:Mpg}(hm:m∈n.dc):fnd n.dc m.frm=some m:=by
 cases hf:fnd n.dc m.frm with
 | none=>
  unfold fnd at hf;have:=List.find?_eq_none.1 hf m hm
  simp at this
 | some m'=>
  obtain⟨h1,h2⟩:=dv hf;rw[hG.v.inj m' h1 m hm h2]
theorem wM {m:Mpg}(hm:m∈n.dc) (k:Bool):once n k m.frm=if m.tag≠[]∧k=false then none else some m.to:=by
 unfold once;rw[if_neg (by have:=hG.v.kind m hm;omega),GS hG hm]
theorem gg (k:Bool):nf (once n k):=by cases k;exact hG.v.endsD;exact hG.v.ends
theorem jn_ex {k:Bool}{a c w:Int}(h:jn n a c=some w):bA (once n k) w=bA (once n k) a++bA (once n k) c:=by
 have hI:=lY (gg hG k);rcases iq hG h with h|⟨_,m,hm,hc,rfl⟩
 ·obtain⟨h1,_,_,h2⟩:=ix h;have hw:once n k w=some (hd w):=by unfold once;rw[if_pos h1]
  rw[hI.some hw];rcases h2 with⟨_,h3⟩|⟨h3,h4⟩
  ·rw[h3];simp
  ·have ha:once n k a=some (hd a):=by unfold once;rw[if_pos om]
   rw[h4,hI.some ha];simp
 ·have h1:=wM hG hm k;rw[if_neg (λh=>h.1 hc.1)] at h1;rw[hI.some h1,hc.2.1];simp
theorem lh (k:Bool):NK (aJ n.cl) (jn n) (bA (once n k)):={ zero:=λh=>F9 hG h,pos:=hG.v.cls_pos,join:=λh=>jn_ex hG h,irr:=λc e he=>(lY (gg hG k)).none ((lY (gg hG k)).irr (gg hG k) c e he) }
theorem GV (c:Int):exs (bA (once n true)) (bA (once n false) c)=bA (once n true) c:=by
 have hI:=lY (gg hG false);have hK:=lY (gg hG true);obtain⟨rk,hr⟩:=gg hG false
 have:∀ f c,rk c<f->exs (bA (once n true)) (bA (once n false) c)=bA (once n true) c:=by
  intro f
  induction f with
  | zero=>intro c h;exact absurd h (Nat.not_lt_zero _)
  | succ f ih=>
   intro c hc;cases ho:once n false c with
   | none=>rw[hI.none ho];simp[exs]
   | some to=>
    rw[hI.some ho,hK.some (dF ho)]
    have:∀ l:List Int,(∀ e∈l,rk e<rk c)->exs (bA (once n true)) (l.flatMap (bA (once n false)))=l.flatMap (bA (once n true)):=λl=>by
     induction l with
     | nil=>intro _;rfl
     | cons e l ihl=>
      intro hl;have h1:=hl e si;have h2:=ihl λx hx=>hl x (List.mem_cons_of_mem _ hx)
      simp only[exs,List.flatMap_cons,List.flatMap_append] at h2 ⊢;rw[h2];have h3:=ih e om;unfold exs at h3;rw[h3]
    exact this to (hr c to ho)
 exact this (rk c+1) c om
theorem GW {c:Int}(hc:aJ n.cl c≠0) (he:bA (once n false) c=[c]):bA (once n true) c=[c]:=by
 have hI:=lY (gg hG false);have hK:=lY (gg hG true);have hk0:¬1<=hk c:=λh=>hc (rR hG h)
 cases ho:once n true c with
 | none=>exact hK.none ho
 | some to=>
  exfalso;unfold once at ho;rw[if_neg om] at ho;cases hf:fnd n.dc c with
  | none=>rw[hf] at ho;cases ho
  | some m=>
   obtain⟨h1,h2⟩:=dv hf;by_cases ht:m.tag=[]
   ·have ho2:=wM hG h1 false;rw[if_neg (λh=>h.1 ht),h2] at ho2;rw[hI.some ho2] at he;obtain⟨rk,hr⟩:=gg hG false;have hr:=hr c m.to ho2;have hin:c∈m.to.flatMap (bA (once n false)):=by rw[he];simp
    obtain⟨d,hd,hcd⟩:=List.mem_flatMap.1 hin;have:=hI.irr (gg hG false) d c hcd
    rw[ho2] at this;cases this
   ·have:=hG.v.tagged m h1 ht
    rw[h2] at this;exact hc this
theorem Dj:NK2 (aJ n.cl) (jn n) (bA (once n false)) (bA (once n true)):=⟨lh hG false,lh hG true,GV hG,λc hc he=>GW hG hc he⟩
theorem Di (k:Bool):NK2 (aJ n.cl) (jn n) (bA (once n k)) (bA (once n k)):=
 ⟨lh hG k,lh hG k,λc=>by
  unfold exs
  exact gK λe he=>(lh hG k).irr c e he,λ_ _ h=>h⟩
theorem GC {c:Int}(h:c<0) (a:Int):jn n a c=none:=by
 cases hj:jn n a c with
 | none=>rfl
 | some w=>
  rcases iq hG hj with h1|⟨_,m,hm,hc,rfl⟩
  ·have h2:=(ix h1).2.2.1;have:=aj c
   omega
  ·have h3:=(fj hG hm).2 1 (by rw[hc.2.1];simp);simp only[hc.2.1] at h3;have:=h3.1
   simp at this;omega
theorem GD {c:Int}(h:c<0) (b:Int):jn n c b=none:=by
 cases hj:jn n c b with
 | none=>rfl
 | some w=>
  rcases iq hG hj with h1|⟨_,m,hm,hc,rfl⟩
  ·have h2:=(ix h1).2.2.2;have:=aj c
   omega
  ·have h3:=(fj hG hm).2 0 (by rw[hc.2.1];simp);simp only[hc.2.1] at h3;have:=h3.1
   simp at this;omega
theorem EP {c:Int}(h:c<0) (k:Bool):bA (once n k) c=[c]:=(lY (gg hG k)).none (DZ hG h k)
end
end
section
open Go Go.Am Classical
set_option linter.unusedVariables false
section
variable {n:Nm}(hG:NmG n)
include hG
theorem ex_pos (k:Bool){c:Int}(h:0<=c):∀ e∈bA (once n k) c,0<=e:=by
 have hI:=lY (gg hG k);obtain⟨rk,hr⟩:=gg hG k
 have:∀ f c,rk c<f->0<=c->∀ e∈bA (once n k) c,0<=e:=by
  intro f
  induction f with
  | zero=>intro c h;exact absurd h (Nat.not_lt_zero _)
  | succ f ih=>
   intro c hc h0 e he;cases ho:once n k c with
   | none=>rw[hI.none ho,List.mem_singleton] at he;rw[he];exact h0
   | some to=>
    rw[hI.some ho] at he;obtain⟨d,hd,he⟩:=List.mem_flatMap.1 he;have h1:=hr c to ho d hd;refine ih d om ?_ e he;unfold once at ho;split at ho
    ·rename_i hk4;injection ho with ho;subst ho
     have:=yv hk4 hd
     omega
    ·split at ho
     ·rename_i m hm;obtain⟨h2,_⟩:=dv hm;split at ho
      ·cases ho
      ·injection ho with ho;subst ho
       obtain⟨i,hi,rfl⟩:=List.getElem_of_mem hd;exact((fj hG h2).2 i hi).1
     ·cases ho
 exact this (rk c+1) c om h
theorem tb (k:Bool){t:List Int}(h:∀ c∈t,0<=c):∀ e∈d7 n k t,0<=e:=λe he=>by
 have h1:=lU.1 (show e∈can _ (exs _ t) from he);obtain⟨c,hc,he⟩:=List.mem_flatMap.1 h1;exact ex_pos hG k (h c hc) e he
theorem jn_pos {a c w:Int}(h:jn n a c=some w):0<=w:=by
 rcases iq hG h with h|⟨_,m,hm,_,rfl⟩
 ·have:=(ix h).1
  have:=aj w
  omega
 ·exact(fj hG hm).1.1
theorem GM {f:Int}{t:List Int}(h:∀ c∈t,0<=c):∀ e∈bE n f t,0<=e:=λe he=>by
 unfold bE at he;split at he
 ·rcases ui he with h1|h1|h1|⟨a,c,h1⟩
  ·simp at h1
  ·simp at h1
  ·exact tb hG _ h e h1
  ·exact jn_pos hG h1
 ·exact tb hG _ h e he
theorem vJ (k:Bool) (l:List Int):d7 n k (gp l)=eU (-1) (λc=>d7 n k [c]) l:=rP (EP hG om k) (Ae hG om) l
theorem EL (f:Int) (l:List Int):bE n f (gp l)=eU (-1) (λc=>bE n f [c]) l:=by
 unfold bE;split
 ·exact Ee (EP hG om _) (Ae hG om) (λa=>GC hG om a) (λb=>GD hG om b) l
 ·exact vJ hG _ l
end
theorem rD {g:Int}{G:Int->List Int}{m:Nat}(h:∀ c,(G c).length<=m):∀ l:List Int,(eU g G l).length<=(m+1)*l.length
 | []=>by simp[eU]
 | c::l=>by
  have h1:=rD (g:=g) h l;have h2:=h c;rw[fM,kG,kO,kO,Nat.mul_add];omega
theorem qm {n n':Nm}(hN:eI n n'):eI n' n':=by
 obtain⟨e,h1,h2,h3⟩:=hN.ck;by_cases he:e=0
 ·have:=h2 he;subst this;exact hN
 ·have:=h3 he;subst this
  obtain⟨m,hm⟩:=nrm_c Nm.ok.zero;obtain⟨e2,_,k2,k3⟩:=hm.ck
  have:m=nm0:=by
   by_cases he2:e2=0
   ·exact k2 he2
   ·exact k3 he2
  subst this;exact hm
abbrev ckC (n:Nm) (f:Int) (s:List Rng):List D:=[bC n.cl,ag n.dc,bD n.xc,i64 f,boo (kF f),bD s]
theorem je (n:Nm) (f:Int) (s:List Rng):aK (ckC n f s)=true:=by simp[aK,aL,aY,bH,aV]
section
variable {n:Nm}{f:Int}{s:List Rng}{l t:List Int}
theorem frm1_c (hf:isF f) (hN:eI n n) (ht:t.length<=1500):Pu Tryz.prog 349 [aF t,.iptr (ckC n f s)] (aF (bE n f t)):=by
 have h0:=kl hf hN ht;refine Pu.of_v aA T0 Tryz.func349 rfl rfl (aD (aC _) (aD (je _ _ _) rfl)) ?_;repeat' ((conv=>whnf);first|exact kQ|(refine bk ?_ ?_<;>intro _<;>try(exfalso;omega))|refine stq ?_|refine cp h0 ?_|fail)
 all_goals(conv=>whnf)
 exact aE.same (aC _) rfl
theorem prt1_c (hN:eI n n) (ht:t.length<=1500):Pu Tryz.prog 155 [aF t,.iptr (ckC n f s)] (aF (d7 n (kF f) t)):=by
 have h0:=yG (k:=kF f) hN ht;refine Pu.of_v aA T0 Tryz.func155 rfl rfl (aD (aC _) (aD (je _ _ _) rfl)) ?_;repeat' ((conv=>whnf);first|exact kQ|(refine bk ?_ ?_<;>intro _<;>try(exfalso;omega))|refine stq ?_|refine cp h0 ?_|fail)
 all_goals(conv=>whnf)
 exact aE.same (aC _) rfl
theorem Dk {e:Int}(h:0<=e):e≠-1:=by omega
theorem GQ (hf:isF f) (hN:eI n n) (hl:l.length<=100) (hp:∀ c∈l,0<=c):Pu Tryz.prog 276 [.agg (ckC n f s),aF l] (iu (l.map λc=>bE n f [c])):=by
 have hlen:∀ c,(bE n f [c]).length<=64:=λc=>by have:=el hN.g f [c];simpa using this
 have hgl:=rD (g:=-1) hlen l;have h1:=frm1_c (s:=s) (t:=gp l) hf hN (by rw[uX];omega);rw[EL hN.g] at h1;have hA:=Al (G:=λc=>bE n f [c]) (je n f s) hl (λc hc x hx=>Dk (GM hN.g (λe he=>by rw[List.mem_singleton.1 he];exact hp c hc) x hx)) om h1;refine Pu.of_v aA T0 Tryz.func276 rfl rfl (aD (je _ _ _) (aD (aC _) rfl)) ?_;repeat' ((conv=>whnf);first|exact kQ|(refine bk ?_ ?_<;>intro _<;>try(exfalso;omega))|refine stq ?_|refine Cll.give (.cons (.same (aC _)) (.cons (.fn .nil (.cons (.frzp rfl rfl (.same (je _ _ _))) .nil)) .nil)) hA ?_|fail)
 all_goals(conv=>whnf)
 exact aE.same (aN (λ_=>aC _) _) rfl
theorem DK (hN:eI n n) (hl:l.length<=100) (hp:∀ c∈l,0<=c):Pu Tryz.prog 80 [.agg (ckC n f s),aF l] (iu (l.map λc=>d7 n (kF f) [c])):=by
 have hlen:∀ c,(d7 n (kF f) [c]).length<=64:=λc=>by have:=iR hN.g (kF f) [c];simpa using this
 have hgl:=rD (g:=-1) hlen l;have h1:=prt1_c (f:=f) (s:=s) (t:=gp l) hN (by rw[uX];omega);rw[vJ hN.g] at h1;have hA:=Al (G:=λc=>d7 n (kF f) [c]) (je n f s) hl (λc hc x hx=>Dk (tb hN.g _ (λe he=>by rw[List.mem_singleton.1 he];exact hp c hc) x hx)) om h1;refine Pu.of_v aA T0 Tryz.func80 rfl rfl (aD (je _ _ _) (aD (aC _) rfl)) ?_;repeat' ((conv=>whnf);first|exact kQ|(refine bk ?_ ?_<;>intro _<;>try(exfalso;omega))|refine stq ?_|refine Cll.give (.cons (.same (aC _)) (.cons (.fn .nil (.cons (.frzp rfl rfl (.same (je _ _ _))) .nil)) .nil)) hA ?_|fail)
 all_goals(conv=>whnf)
 exact aE.same (aN (λ_=>aC _) _) rfl
end
end
section
open Go Go.Am Classical
set_option linter.unusedVariables false
theorem xYE.rdX {p:Prop}(h:p:=by first|exact Rd.map rfl|exact Rd.same (aN (λ_=>aC _) _)|fail):p:=h
theorem xYE.rbX {p:Prop}(h:p:=by first|exact Rb.map .nil|exact Rb.map (Res.eqs hMe (nbER _ _ _ _))|exact Rb.cells (Rds.same hnb) rfl|fail):p:=h
open xYE
noncomputable def dj (n:Nm) (f:Int) (s:List Rng) (c:Int):Int:=if bE n f [c]=[c] then(if bM s ((d7 n (kF f) [c]).getD 0 0)=true then 3 else 1) else 2
noncomputable def Bd (n:Nm) (f:Int) (s:List Rng) (u:List Int):List (Int×Int):=u.map λc=>(c,dj n f s c)
noncomputable abbrev y8 (n:Nm) (f:Int) (s:List Rng) (u:List Int):List (D×D):=(Bd n f s u).map λp=>(i64 p.1,i64 p.2)
theorem nbER (n:Nm) (f:Int) (s:List Rng) (u:List Int):∀ p∈y8 n f s u,aL p.1=true∧aL p.2=true:=λp hp=>by
 obtain⟨q,_,rfl⟩:=List.mem_map.1 hp;exact⟨rfl,rfl⟩
theorem GN {n:Nm}{f c:Int}(h:bE n f [c]=[c]):d7 n (kF f) [c]≠[]:=λe=>by
 unfold bE at h;split at h
 ·have:gi (aJ n.cl) (jn n) (bA (once n (kF f))) [c]=ft (aJ n.cl) (jn n) (d7 n (kF f) [c]):=rfl
  rw[this,e] at h;simp[ft,cz] at h
 ·have:dcm (aJ n.cl) (bA (once n (kF f))) [c]=d7 n (kF f) [c]:=rfl
  rw[this,e] at h;cases h
section
variable {n:Nm}{f:Int}{s:List Rng}{u:List Int}
theorem BI (hf:isF f) (hN:eI n n) (hs:s.length<=1000) (hl:u.length<=100) (hp:∀ c∈u,0<=c) (hu:u.Nodup):Pk Tryz.prog 152 [.agg (ckC n f s),aF u] 1 (λk=>.map k) (λk=>[(k,.map (y8 n f s u))]):=by
 have hF:=GQ (s:=s) hf hN hl hp;have hP:=DK (f:=f) (s:=s) hN hl hp;have hnb:=je n f s;generalize hFL:(u.map λc=>bE n f [c])=FL at hF;generalize hPL:(u.map λc=>d7 n (kF f) [c])=PL at hP;have lF:FL.length=u.length:=by rw[<-hFL];simp
 have lP:PL.length=u.length:=by rw[<-hPL];simp
 have eF:∀ i (h:i<u.length),FL[i]'(by omega)=bE n f [u[i]]:=λi h=>by subst hFL;simp
 have eP:∀ i (h:i<u.length),PL[i]'(by omega)=d7 n (kF f) [u[i]]:=λi h=>by subst hPL;simp
 have bF:∀ i (h:i<u.length),(FL[i]'(by omega)).length<=64:=λi h=>by rw[eF i h];have:=el hN.g f [u[i]];simpa using this
 have bP:∀ i (h:i<u.length),(PL[i]'(by omega)).length<=64:=λi h=>by rw[eP i h];have:=iR hN.g (kF f) [u[i]];simpa using this
 refine Pk.of_v aA T0 Tryz.func152 rfl rfl (aD hnb (aD (aC _) rfl)) ?_;repeat' ((conv=>whnf);first|exact kQ|(refine bk ?_ ?_<;>intro _<;>try(exfalso;omega))|refine stq ?_|refine cp hF ?_|refine cp hP ?_|fail)
 refine aH.by aA T0 (λi:Nat=>⟨tmp 56 [(1,aF u),(2,.ptr 0 0),(5,.map 1),(6,iu PL),(16,iu FL),(17,i64 (FL.length:Int)),(18,i64 (i:Int))],⟨2,[(0,.cells (ckC n f s) true),(1,.map (y8 n f s (u.take i)))]⟩⟩) (λi=>i<=u.length) (λi=>u.length-i) 0 om ?_ ?_
 ·exact lq [(0,0),(1,2)] []
 intro i hi;by_cases h:i<u.length
 ·have hz:lkZ u[i] (Bd n f s (u.take i)) 0=none:=io.2 λp hp=>by
   obtain⟨c,hc,rfl⟩:=List.mem_map.1 hp;obtain⟨j,hj,rfl⟩:=List.getElem_of_mem hc;have hj2:j<i:=by simp at hj;omega
   rw[List.getElem_take];exact λe=>by have:=(List.getElem_inj hu).1 e;omega
  have hM:y8 n f s (u.take i)++[(i64 u[i],i64 (dj n f s u[i]))]=y8 n f s (u.take (i+1)):=by
   show((Bd n f s (u.take i)).map λp=>(i64 p.1,i64 p.2))++_=(Bd n f s (u.take (i+1))).map λp=>(i64 p.1,i64 p.2)
   unfold Bd;rw[aS h,List.map_append,List.map_append];rfl
  have e1:=eF i h;have e2:=eP i h;have b1:=bF i h;have b2:=bP i h;by_cases hl1:(FL[i]'(by omega)).length=1
  ·have hone:FL[i]'(by omega)=[(FL[i]'(by omega))[0]'(by omega)]:=by
    apply List.ext_getElem
    ·simp[hl1]
    ·intro j h1 h2
     have:j=0:=by simp at h2;omega
     subst this;simp
   by_cases h0:(FL[i]'(by omega))[0]'(by omega)=u[i]
   ·have hfr:bE n f [u[i]]=[u[i]]:=by rw[<-e1,hone,h0]
    have hpl:0<(PL[i]'(by omega)).length:=by
     rw[e2];exact List.length_pos_iff.2 (GN hfr)
    have hhas:=EC (l:=s) (c:=(PL[i]'(by omega))[0]'hpl) om
    have hg0:(d7 n (kF f) [u[i]]).getD 0 0=(PL[i]'(by omega))[0]'hpl:=by
     have:(PL[i]'(by omega)).getD 0 0=(PL[i]'(by omega))[0]'hpl:=gDe hpl
     rw[<-this,e2]
    cases hx:bM s ((PL[i]'(by omega))[0]'hpl) with
    | true=>
     rw[hx] at hhas;have hR:dj n f s u[i]=3:=by unfold dj;rw[if_pos hfr,hg0,if_pos hx]
     rw[hR] at hM;have hMe:=hM;repeat' ((conv=>whnf);first|exact kQ|(refine bk ?_ ?_<;>intro _<;>try(exfalso;omega))|refine stq ?_|refine cp hhas ?_|(refine cB.int (λ_ _ hq=>?_) (λhq=>?_)<;>first|(rw[hz] at hq;cases hq)|skip)|refine aX.by (id:=10) aA T0 [0,1,0,0,12,28,60,124,255,511] (by kernel_rfl) ?_|refine Chk.mk ⟨_,rfl⟩ ?_|refine Chk.mk (λ_=>rfl) ?_|fail)
     all_goals(conv=>whnf)
     all_goals first
      | contradiction
      | (refine⟨i+1,by omega,by omega,?_⟩
         exact lq [(0,0),(1,1)] [])
    | false=>
     rw[hx] at hhas;have hR:dj n f s u[i]=1:=by unfold dj;rw[if_pos hfr,hg0,hx];rfl
     rw[hR] at hM;have hMe:=hM;repeat' ((conv=>whnf);first|exact kQ|(refine bk ?_ ?_<;>intro _<;>try(exfalso;omega))|refine stq ?_|refine cp hhas ?_|(refine cB.int (λ_ _ hq=>?_) (λhq=>?_)<;>first|(rw[hz] at hq;cases hq)|skip)|refine aX.by (id:=10) aA T0 [0,1,0,0,12,28,60,124,255,511] (by kernel_rfl) ?_|refine Chk.mk ⟨_,rfl⟩ ?_|refine Chk.mk (λ_=>rfl) ?_|fail)
     all_goals(conv=>whnf)
     all_goals first
      | contradiction
      | (refine⟨i+1,by omega,by omega,?_⟩
         exact lq [(0,0),(1,1)] [])
   ·have hR:dj n f s u[i]=2:=by
     unfold dj;rw[if_neg λe=>?_];rw[<-e1,hone] at e;injection e with e
     exact h0 e
    rw[hR] at hM;have hMe:=hM;repeat' ((conv=>whnf);first|exact kQ|(refine bk ?_ ?_<;>intro _<;>try(exfalso;omega))|refine stq ?_|(refine cB.int (λ_ _ hq=>?_) (λhq=>?_)<;>first|(rw[hz] at hq;cases hq)|skip)|refine aX.by (id:=10) aA T0 [0,1,0,0,12,28,60,124,255,511] (by kernel_rfl) ?_|refine Chk.mk ⟨_,rfl⟩ ?_|refine Chk.mk (λ_=>rfl) ?_|fail)
    all_goals(conv=>whnf)
    all_goals first
     | contradiction
     | (refine⟨i+1,by omega,by omega,?_⟩
        exact lq [(0,0),(1,1)] [])
  ·have hR:dj n f s u[i]=2:=by
    unfold dj;rw[if_neg λe=>?_];rw[<-e1] at e;exact hl1 (by rw[e];rfl)
   rw[hR] at hM;have hMe:=hM;repeat' ((conv=>whnf);first|exact kQ|(refine bk ?_ ?_<;>intro _<;>try(exfalso;omega))|refine stq ?_|(refine cB.int (λ_ _ hq=>?_) (λhq=>?_)<;>first|(rw[hz] at hq;cases hq)|skip)|refine aX.by (id:=10) aA T0 [0,1,0,0,12,28,60,124,255,511] (by kernel_rfl) ?_|refine Chk.mk ⟨_,rfl⟩ ?_|refine Chk.mk (λ_=>rfl) ?_|fail)
   all_goals(conv=>whnf)
   all_goals first
    | contradiction
    | (refine⟨i+1,by omega,by omega,?_⟩
       exact lq [(0,0),(1,1)] [])
 ·obtain rfl:i=u.length:=by omega
  repeat' ((conv=>whnf);first|exact kQ|(refine bk ?_ ?_<;>intro _<;>try(exfalso;omega))|refine stq ?_|fail)
  all_goals(conv=>whnf)
  exact⟨[1],rfl,⟨by simp,λk=>.map (by simp[sgn]),λk=>.cons (id:=1) (by simp[sgn]) rfl rfl (.map (.eqs (by rw[List.take_length]) (nbER _ _ _ _))) .nil⟩⟩
end
end
section
open Go Go.Am Classical
set_option linter.unusedVariables false
theorem xYG.rdX {p:Prop}(h:p:=by first|exact Rd.frzp rfl rfl (Rds.same hnb)|exact Rd.same (aC _)|fail):p:=h
theorem xYG.rbX {p:Prop}(h:p:=by first|exact Rb.iter (Res.same he)|exact Rb.iter (Res.same λp hp=>(hl p (List.mem_of_mem_eraseIdx hp)).1)|fail):p:=h
open xYG
def wsL (a:Int) (l:List Int):Int:=if a=2∨2∈l then 2 else if a=3∨3∈l then 3 else 1
theorem zb {a:Int}(h:a=1∨a=2∨a=3):wsL a []=a:=by
 unfold wsL;rcases h with rfl|rfl|rfl<;>simp
theorem tV {a:Int}{l:List Int}:wsL a l=1∨wsL a l=2∨wsL a l=3:=by
 unfold wsL;(repeat' split)<;>simp
theorem wsL_2 {a:Int}{l:List Int}:wsL a (2::l)=2:=by simp[wsL]
theorem wsL_3 {a:Int}{l:List Int}(h:a≠2):wsL a (3::l)=wsL 3 l:=by simp[wsL,h]
theorem wsL_o {a x:Int}{l:List Int}(h2:x≠2) (h3:x≠3):wsL a (x::l)=wsL a l:=by
 have e2:¬(2:Int)=x:=λe=>h2 e.symm
 have e3:¬(3:Int)=x:=λe=>h3 e.symm
 simp only[wsL,kH,e2,e3,false_or]
theorem tW {l:List Int}(hl:l.length<=100000):Pu Tryz.prog 75 [aF l] (i64 (wsL 1 l)):=by
 refine Pu.of_v aA T0 Tryz.func75 rfl rfl (aD (aC _) rfl) ?_;repeat' ((conv=>whnf);first|exact kQ|(refine bk ?_ ?_<;>intro _<;>try(exfalso;omega))|refine stq ?_)
 refine aH.by aA T0 (λq:Nat×Int=>⟨tmp 19 [(3,i64 q.2),(6,aF l),(7,i64 l.length),(8,i64 (q.1:Int))],⟨0,[]⟩⟩) (λq=>q.1<=l.length∧(q.2=1∨q.2=3)∧wsL q.2 (l.drop q.1)=wsL 1 l) (λq=>l.length-q.1) (0,1) ⟨by simp,.inl rfl,rfl⟩ ?_ ?_
 ·exact lq0
 intro q ⟨h1,h2,h3⟩;obtain⟨k,w⟩:=q;dsimp only at h1 h2 h3 ⊢;by_cases hk:k<l.length
 ·rw[kK hk] at h3;repeat' ((conv=>whnf);first|exact kQ|(refine bk ?_ ?_<;>intro _<;>try(exfalso;omega))|refine stq ?_|fail)
  all_goals(conv=>whnf)
  all_goals first
   | contradiction
   | (have e:l[k]=2:=by assumption
      rw[e,wsL_2] at h3
      exact aE.int h3)
   | (have e:l[k]=3:=by assumption
      rw[e,wsL_3 om] at h3;refine⟨(k+1,3),⟨by show k+1<=_;omega,.inr rfl,h3⟩,by show _-(k+1)<_-k;omega,?_⟩
      exact lq0)
   | (rw[wsL_o asm asm] at h3
      refine⟨(k+1,w),⟨by show k+1<=_;omega,h2,h3⟩,by show _-(k+1)<_-k;omega,?_⟩
      exact lq0)
 ·rw[List.drop_of_length_le om,zb om] at h3;repeat' ((conv=>whnf);first|exact kQ|(refine bk ?_ ?_<;>intro _<;>try(exfalso;omega))|refine stq ?_|fail)
  all_goals(conv=>whnf)
  all_goals first
   | contradiction
   | exact aE.int h3
abbrev w2 (a b:Int):Int:=wsL 1 [a,b]
theorem Ch {a:Int}{l l':List Int}{x:Int}(h:∀ y,y∈l↔y=x∨y∈l'):wsL a l=wsL (w2 a x) l':=by
 unfold w2 wsL;simp only[h 2,h 3];by_cases h1:a=2<;>by_cases h2:x=2<;>by_cases h3:a=3<;>by_cases h4:x=3<;>by_cases h5:(2:Int)∈l'<;>by_cases h6:(3:Int)∈l'<;>simp_all<;>omega
theorem Du {α:Type}{y:α}:∀ {l:List α}{j:Nat}(h:j<l.length),y∈l↔y=l[j]∨y∈l.eraseIdx j
 | [],_,h=>absurd h (Nat.not_lt_zero _)
 | x::l,0,_=>by simp
 | x::l,j+1,h=>by
  have ih:=Du (y:=y) (l:=l) (j:=j) (by simpa using h);rw[kH,ih,List.eraseIdx_cons_succ,kH];simp only[List.getElem_cons_succ];constructor
  ·rintro(h|h|h)
   ·exact .inr (.inl h)
   ·exact .inl h
   ·exact .inr (.inr h)
  ·rintro(h|h|h)
   ·exact .inr (.inl h)
   ·exact .inl h
   ·exact .inr (.inr h)
def FM:D->Int
 | .v (.int _ x)=>x
 | _=>0
section
variable {n:Nm}{f:Int}{s:List Rng}{t:List Int}
theorem Hp {l:List (D×D)}{j:Nat}(hj:j<l.length) (y:Int):y∈l.map (λp=>FM p.2)↔y=FM l[j].2∨y∈(l.eraseIdx j).map (λp=>FM p.2):=by
 rw[List.mem_map,List.mem_map];constructor
 ·rintro⟨p,hp,rfl⟩;rcases(Du hj).1 hp with rfl|hp
  ·exact .inl rfl
  ·exact .inr ⟨p,hp,rfl⟩
 ·rintro(rfl|⟨p,hp,rfl⟩)
  ·exact⟨_,kM hj,rfl⟩
  ·exact⟨p,List.mem_of_mem_eraseIdx hp,rfl⟩
theorem all2_c (hf:isF f) (hN:eI n n) (hs:s.length<=1000) (ht:t.length<=100):Pu Tryz.prog 76 [.agg (ckC n f s),aF t] (i64 (wsL 1 ((c9 t).map (dj n f s)))):=by
 obtain⟨d1,d2,_,d4⟩:=mJ t [] si si;have hc:=Ec (t:=t) om;have hr:=BI (u:=c9 t) hf hN hs (by unfold c9;simp at d4;omega) (λc hc=>(d2 c hc).1) d1;have hnb:=je n f s;have he:=nbER n f s (c9 t);refine Pu.of_v aA T0 Tryz.func76 rfl rfl (aD hnb (aD (aC _) rfl)) ?_;repeat' ((conv=>whnf);first|refine cm.weak (x:=Code.seq (Code.seq (Code.region 2 _ true) _) _) aA T0 (s0:=⟨tmp 23 [(1,aF t),(2,.iptr (ckC n f s)),(4,i64 0),(5,i64 1)],⟨0,[]⟩⟩) ?_ ?_|exact kQ|(refine bk ?_ ?_<;>intro _<;>try(exfalso;omega))|refine stq ?_|refine aX.byW (id:=2) aA T0 [0,0,2,6,15,31] (by kernel_rfl) ?_|refine Cll.pk zA ?_|refine Cll.give (.cons (.fn .nil (.cons (.frzp rfl rfl (.cons (.same (aC _)) .nil)) .nil)) .nil) hc ?_|refine Cll.pk hr ?_|refine Chk.mk ⟨_,rfl⟩ ?_|refine Chk.mk (λ_=>rfl) ?_|fail)
 all_goals(conv=>whnf)
 ·exact lq [] [0]
 refine aH.by aA T0 (λq:List (D×D)×Int=>⟨tmp 23 [(5,i64 q.2),(13,.ptr 0 0)],⟨1,[(0,.iter q.1 none)]⟩⟩) (λq=>(∀ p∈q.1,(aL p.1=true∧aL p.2=true)∧p.2=i64 (FM p.2))∧(q.2=1∨q.2=2∨q.2=3)∧wsL q.2 (q.1.map λp=>FM p.2)=wsL 1 ((c9 t).map (dj n f s))) (λq=>q.1.length) (y8 n f s (c9 t),1) ⟨λp hp=>⟨he p hp,?_⟩,.inl rfl,?_⟩ ?_ ?_
 ·obtain⟨q,_,rfl⟩:=List.mem_map.1 hp;rfl
 ·simp[y8,Bd,FM,Function.comp_def]
 ·exact lq [(0,5)] []
 intro q ⟨hl,hw,hq⟩;obtain⟨l,w⟩:=q;dsimp only at hl hw hq ⊢;repeat' ((conv=>whnf);first|exact kQ|(refine bk ?_ ?_<;>intro _<;>try(exfalso;omega))|refine stq ?_|(refine zS.mk (λhl0=>?_) (λj hj=>?_);rotate_left;rw[(hl _ (kM hj)).2])|refine Cll.borrow (.cons (Rd.frz rfl rfl (kD rfl) (Rds.same rfl)) .nil) (tW (l:=[_,_]) si) ?_|fail)
 all_goals(conv=>whnf)
 all_goals first
  | exact aE.int (by rw[show l=[] by first|assumption|exact List.length_eq_zero_iff.1 om,List.map_nil,zb hw] at hq;exact hq)
  | (refine⟨(l.eraseIdx j,w2 w (FM l[j].2)),⟨λp hp=>hl p (List.mem_of_mem_eraseIdx hp),tV,by rw[<-hq];exact(Ch λy=>Hp hj y).symm⟩,by show(l.eraseIdx j).length<l.length;rw[List.length_eraseIdx_of_lt hj];omega,?_⟩
     exact lq [(0,0)] [])
end
end
end Go.Proofs.YtihggclfifimoaaGreatDoor
