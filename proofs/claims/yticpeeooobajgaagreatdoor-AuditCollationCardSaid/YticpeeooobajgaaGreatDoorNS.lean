/-
  Plain: sorting that keeps the order of equals: merging in place and rotating.
-/
import Derived.Test.YticpeeooobajgaaGreatDoorNA
import Derived.Test.YticpeeooobajgaaGreatDoorND
import Derived.Test.YticpeeooobajgaaGreatDoorNK
set_option linter.unusedSectionVars false
namespace Go.Proofs.YticpeeooobajgaaGreatDoor
section
open Go Go.Am
set_option linter.unusedVariables false
section
variable {cls:Int->Int}
abbrev Up (cls:Int->Int) (l:List Int):Prop:=l.Pairwise λa b=>cls a<=cls b
abbrev Mk (cls:Int->Int) (l:List Int):Prop:=∀ x∈l,0<cls x
theorem Up.ord:∀ {l:List Int},Up cls l->dG cls l
 | [],_=>trivial
 | [_],_=>trivial
 | x::y::l,h=>by
  have h1:=List.pairwise_cons.1 h;exact⟨by have:=h1.1 y si;omega,Up.ord h1.2⟩
theorem dG.up:∀ {l:List Int},dG cls l->Mk cls l->Up cls l
 | [],_,_=>.nil
 | [x],_,_=>List.pairwise_singleton _ _
 | x::y::l,h,hm=>by
  have h1:=dG.up h.2 λz hz=>hm z (List.mem_cons_of_mem _ hz)
  refine List.pairwise_cons.2 ⟨λz hz=>?_,h1⟩;have h2:=h.1;have h3:=hm y si;rcases List.mem_cons.1 hz with rfl|hz
  ·omega
  ·have:=(List.pairwise_cons.1 h1).1 z hz;omega
theorem ji {l:List Int}(hm:Mk cls l):Up cls (can cls l):=(wd l).up λx hx=>hm x (l9.1 hx)
theorem Sw.far {x:Int}(hx:0<cls x):∀ {Y:List Int},(∀ y∈Y,0<cls y∧cls y≠cls x)->Sw cls (x::Y) (Y++[x])
 | [],_=>.refl _
 | y::Y,h=>by
  have h1:=h y si;exact(Sw.one [] x y Y hx h1.1 (Ne.symm h1.2)).trans ((Sw.far hx λz hz=>h z (List.mem_cons_of_mem _ hz)).cons y)
theorem Sw.rot {Y:List Int}:∀ {X:List Int},Mk cls X->Mk cls Y->(∀ x∈X,∀ y∈Y,cls y≠cls x)->Sw cls (X++Y) (Y++X)
 | [],_,_,_=>by simpa using Sw.refl (cls:=cls) Y
 | x::X,h1,h2,h3=>by
  have h4:=(Sw.rot (X:=X) (λz hz=>h1 z (List.mem_cons_of_mem _ hz)) h2 λz hz=>h3 z (List.mem_cons_of_mem _ hz)).cons x;have h5:=Sw.app (Sw.far (h1 x si) (Y:=Y) λy hy=>⟨h2 y hy,h3 x si y hy⟩) (Sw.refl (cls:=cls) X);exact h4.trans (by simpa using h5)
theorem yr {U X Y V:List Int}(hU:Mk cls U) (hX:Mk cls X) (hY:Mk cls Y) (hV:Mk cls V) (h1:Up cls (U++X)) (h2:Up cls (Y++V)) (h3:∀ x∈X,∀ y∈Y,cls y<cls x) (h4:∀ u∈U,∀ v∈V,cls u<=cls v) :
  can cls (U++X++(Y++V))=can cls (U++Y)++can cls (X++V):=by
 have hs:Sw cls (U++X++(Y++V)) (can cls (U++Y)++can cls (X++V)):=by
  have a:=(Sw.rot hX hY λx hx y hy=>by have:=h3 x hx y hy;omega).mid U V;have b:=Sw.app (gU (cls:=cls) (U++Y)) (gU (cls:=cls) (X++V));have c:Sw cls (U++X++(Y++V)) ((U++Y)++(X++V)):=by simpa using a
  exact c.trans b
 rw[hs.same];refine(Up.ord ?_).same;refine List.pairwise_append.2 ⟨ji λx hx=>?_,ji λx hx=>?_,λa ha b hb=>?_⟩
 ·rcases List.mem_append.1 hx with hx|hx
  ·exact hU x hx
  ·exact hY x hx
 ·rcases List.mem_append.1 hx with hx|hx
  ·exact hX x hx
  ·exact hV x hx
 ·rcases List.mem_append.1 (l9.1 ha) with ha|ha<;>rcases List.mem_append.1 (l9.1 hb) with hb|hb
  ·exact(List.pairwise_append.1 h1).2.2 a ha b hb
  ·exact h4 a ha b hb
  ·have:=h3 b hb a ha;omega
  ·exact(List.pairwise_append.1 h2).2.2 a ha b hb
theorem yu {x:Int}{A B:List Int}(hm:Mk cls (A++B)) (hx:0<cls x) (hu:Up cls (A++B)) (h1:∀ y∈A,cls y<cls x) (h2:∀ y∈B,cls x<=cls y):can cls (x::(A++B))=A++x::B:=by
 have hs:Sw cls (x::(A++B)) (A++x::B):=by
  have:=Sw.app (Sw.far hx (Y:=A) λy hy=>⟨hm y (List.mem_append_left _ hy),by have:=h1 y hy;omega⟩) (Sw.refl (cls:=cls) B)
  simpa using this
 rw[hs.same];refine(Up.ord ?_).same;obtain⟨p,q,r⟩:=List.pairwise_append.1 hu;refine List.pairwise_append.2 ⟨p,List.pairwise_cons.2 ⟨h2,q⟩,λa ha b hb=>?_⟩;rcases List.mem_cons.1 hb with rfl|hb
 ·have:=h1 a ha;omega
 ·exact r a ha b hb
theorem uW {y:Int}{A B:List Int}(hm:Mk cls (A++B)) (hy:0<cls y) (hu:Up cls (A++B)) (h1:∀ x∈A,cls x<=cls y) (h2:∀ x∈B,cls y<cls x):can cls (A++B++[y])=A++y::B:=by
 have hs:Sw cls (A++B++[y]) (A++y::B):=by
  have:=Sw.app (Sw.refl (cls:=cls) A) (Sw.rot (X:=B) (Y:=[y]) (λz hz=>hm z (List.mem_append_right _ hz)) (λz hz=>by rw[List.mem_singleton.1 hz];exact hy) λx hx z hz=>by rw[List.mem_singleton.1 hz];have:=h2 x hx;omega)
  simpa using this
 rw[hs.same];refine(Up.ord ?_).same;obtain⟨p,q,r⟩:=List.pairwise_append.1 hu;refine List.pairwise_append.2 ⟨p,List.pairwise_cons.2 ⟨λz hz=>by have:=h2 z hz;omega,q⟩,λa ha b hb=>?_⟩;rcases List.mem_cons.1 hb with rfl|hb
 ·exact h1 a ha
 ·exact r a ha b hb
end
def dE (l:List Int) (a b:Nat):List Int:=(l.set a (l.getD b 0)).set b (l.getD a 0)
@[simp] theorem swap2_len (l:List Int) (a b:Nat):(dE l a b).length=l.length:=by simp[dE]
def jC:List Int->Nat->Nat->Nat->List Int
 | l,_,_,0=>l
 | l,a,b,k+1=>jC (dE l a b) (a+1) (b+1) k
theorem s6 (P:List Int) (x:Int) (A:List Int) (y:Int) (S:List Int):dE (P++x::(A++y::S)) P.length (P.length+(A.length+1))=P++y::(A++x::S):=by
 have e1:(P++x::(A++y::S)).getD P.length 0=x:=by simp[List.getD_eq_getElem?_getD]
 have e2:(P++x::(A++y::S)).getD (P.length+(A.length+1)) 0=y:=by
  rw[List.getD_eq_getElem?_getD,List.getElem?_append_right om,Nat.add_sub_cancel_left,List.getElem?_cons_succ,List.getElem?_append_right om];simp
 unfold dE;rw[e1,e2,List.set_append_right _ _ om,Nat.sub_self,List.set_cons_zero,List.set_append_right _ _ om,Nat.add_sub_cancel_left,List.set_cons_succ,List.set_append_right _ _ om,Nat.sub_self,List.set_cons_zero]
theorem ni:∀ (X Y P M S:List Int),X.length=Y.length->jC (P++(X++(M++(Y++S)))) P.length (P.length+(X.length+M.length)) X.length=P++(Y++(M++(X++S)))
 | [],[],P,M,S,_=>rfl
 | [],_::_,_,_,_,h=>by simp at h
 | _::_,[],_,_,_,h=>by simp at h
 | x::X,y::Y,P,M,S,h=>by
  have h1:=s6 P x (X++M) y (Y++S);have e:(X++M).length+1=(x::X).length+M.length:=by simp;omega
  rw[e] at h1;have h2:=ni X Y (P++[y]) (M++[x]) S (by simpa using h);have e3:(P++[y]).length+(X.length+(M++[x]).length)=P.length+((x::X).length+M.length)+1:=by simp;omega
  rw[e3] at h2;have e4:(P++[y]).length=P.length+1:=by simp
  rw[e4] at h2;show jC (dE _ _ _) _ _ _=_;have e5:P++(x::X++(M++(y::Y++S)))=P++x::(X++M++y::(Y++S)):=by simp
  rw[e5,h1];have e6:P++y::(X++M++x::(Y++S))=P++[y]++(X++(M++[x]++(Y++S))):=by simp
  rw[e6,h2];simp
end
section
open Go Go.Am Classical
set_option maxRecDepth 100000
set_option linter.unusedVariables false
theorem xNT.rdX {p:Prop}(h:p:=by first|exact Rd.same (nbF _)|fail):p:=h
theorem xNT.rbX {p:Prop}(h:p:=by first|exact Rb.cells (Rds.eqs (jo om om) (aN (λ_=>rfl) _)) rfl|fail):p:=h
open xNT
theorem Get.mapO {α:Type}{f:α->D}{l:List α}{k o:Nat}{K:List D->Prop}(h:o+k<l.length) (go:K [f l[o+k]]):Get (l.map f) (o+k*1) 1 K:=by
 have:=Get.map (f:=f) (l:=l) (k:=o+k) (K:=K) h go
 rwa [show 0+(o+k)*1=o+k*1 from by omega] at this
theorem Put.oneO {cs:List D}{k o:Nat}{d:D}{K:List D->Prop}(h:o+k<cs.length) (go:K (cs.set (o+k) d)):Put cs (o+k*1) [d] K:=by
 have:=Put.one (cs:=cs) (k:=o+k) (d:=d) (K:=K) h go
 rwa [show 0+(o+k)*1=o+k*1 from by omega] at this
abbrev aa (x:Int):D:=i64 x
abbrev slO (o n c:Nat):D:=.sl 0 o n c 1 false
abbrev cH (cl:List Spn):D:=.fn (.func 267) [] [.iptr [cB cl]]
theorem nbF (cl:List Spn):aL (cH cl)=true:=by simp[aL,aJ,aO]
theorem jo {l:List Int}{a b:Nat}(ha:a<l.length) (hb:b<l.length):((l.map aa).set a (aa l[b])).set b (aa l[a])=(dE l a b).map aa:=by
 unfold dE;rw[List.map_set,List.map_set,cE ha,cE hb]
theorem rN {cl:List Spn}{l:List Int}{o n c a b k:Nat}(hl:l.length<=100000) (hn:o+n<=l.length) (ha:a+k<=n) (hb:b+k<=n) :
  AC1 Tryz.prog 375 [slO o n c,i64 a,i64 b,i64 k,cH cl] ⟨1,[(0,.cells (l.map aa) false)]⟩ (.tup []) ⟨4,[(0,.cells ((jC l (o+a) (o+b) k).map aa) false)]⟩:=by
 refine AC1.of_vl aA T0 Tryz.func375 rfl rfl ?_;repeat' ((conv=>whnf);first|exact kQ|(refine bk ?_ ?_<;>intro _<;>try(exfalso;omega))|refine stq ?_)
 refine aH.by2 aA T0 (λ(i:Nat) (cur:List Int)=>⟨tmp 38 [(0,slO o n c),(1,i64 a),(2,i64 b),(3,i64 k),(4,cH cl),(10,i64 (i:Int))],⟨1,[(0,.cells (cur.map aa) false)]⟩⟩)
  (λi cur=>i<=k∧cur.length=l.length∧jC cur (o+(a+i)) (o+(b+i)) (k-i)=jC l (o+a) (o+b) k) (λi _=>k-i) 0 l ⟨by omega,rfl,rfl⟩ ?_ ?_
 ·exact lq0
 intro i cur ⟨h1,h2,h3⟩;by_cases hk:i<k
 ·repeat' ((conv=>whnf);first|exact kQ|(refine bk ?_ ?_<;>intro _<;>try(exfalso;omega))|refine stq ?_|refine ab.by (id:=3) aA T0 [0,0,0,6,0,0,0,96,0,0,0,1536,3840,7936,0,0,0,98304,245760,507904,1048335,2096911,4194303,8388607] (by kernel_rfl) ?_|refine az.at (b+i) om om ?_|refine az.at (a+i) om om ?_|refine Get.mapO om ?_|refine Put.oneO (by simp;omega) ?_|fail)
  all_goals(conv=>whnf)
  have e:k-i=(k-(i+1))+1:=by omega
  rw[e] at h3;have h4:jC (dE cur (o+(a+i)) (o+(b+i))) (o+(a+(i+1))) (o+(b+(i+1))) (k-(i+1))=jC l (o+a) (o+b) k:=h3;refine⟨i+1,dE cur (o+(a+i)) (o+(b+i)),⟨by omega,by simp[h2],h4⟩,by omega,?_⟩;exact lq0
 ·have e:i=k:=by omega
  subst e;rw[Nat.sub_self] at h3;rw[<-h3];repeat' ((conv=>whnf);first|exact kQ|(refine bk ?_ ?_<;>intro _<;>try(exfalso;omega))|refine stq ?_|fail)
  all_goals(conv=>whnf)
  exact⟨Or.inl rfl,rfl,rfl⟩
theorem oO:∀ (k:Nat) (l:List Int) (a b:Nat),(jC l a b k).length=l.length
 | 0,_,_,_=>rfl
 | k+1,l,a,b=>by show(jC (dE l a b) _ _ k).length=_;rw[oO k];simp
def qP (o m n:Nat) (T:List Int) (ij:Nat×Nat) (cur:List Int):Prop:=
 0<ij.1∧0<ij.2∧∃ P X Y S:List Int,cur=P++(X++(Y++S))∧P.length+X.length=o+m∧X.length=ij.1∧Y.length=ij.2∧P++(Y++(X++S))=T∧m+ij.2<=n∧ij.1<=m
theorem qP.gt {o m n:Nat}{T:List Int}{i j:Nat}{cur:List Int}(h:qP o m n T (i,j) cur) (hlt:j<i):qP o m n T (i-j,j) (jC cur (o+(m-i)) (o+m) j):=by
 obtain⟨h1,h2,P,X,Y,S,e,h3,h4,h5,h6,h7,h8⟩:=h;simp only at h1 h2 h4 h5 h7 h8;have hs:=ni (X.take j) Y P (X.drop j) S (by simp;omega);have e1:P.length+((X.take j).length+(X.drop j).length)=o+m:=by simp;omega
 have e2:P.length=o+(m-i):=by omega
 have e3:(X.take j).length=j:=by simp;omega
 have e4:P++(X.take j++(X.drop j++(Y++S)))=cur:=by rw[e,<-List.append_assoc (X.take j),List.take_append_drop]
 rw[e1,e2,e3,e4] at hs;refine⟨by simp only;omega,h2,P++Y,X.drop j,X.take j,S,by rw[hs];simp,by simp;omega,by simp;omega,by simp;omega,?_,h7,by simp only;omega⟩;rw[<-h6,List.append_assoc,<-List.append_assoc (X.take j),List.take_append_drop]
theorem qP.lt {o m n:Nat}{T:List Int}{i j:Nat}{cur:List Int}(h:qP o m n T (i,j) cur) (hlt:i<j):qP o m n T (i,j-i) (jC cur (o+(m-i)) (o+(m+j-i)) i):=by
 obtain⟨h1,h2,P,X,Y,S,e,h3,h4,h5,h6,h7,h8⟩:=h;simp only at h1 h2 h4 h5 h7 h8;have hs:=ni X (Y.drop (j-i)) P (Y.take (j-i)) S (by simp;omega);have e1:P.length+(X.length+(Y.take (j-i)).length)=o+(m+j-i):=by simp;omega
 have e2:P.length=o+(m-i):=by omega
 have e4:P++(X++(Y.take (j-i)++(Y.drop (j-i)++S)))=cur:=by rw[e,<-List.append_assoc (Y.take (j-i)),List.take_append_drop]
 rw[e1,e2,h4,e4] at hs;refine⟨h1,by simp only;omega,P,Y.drop (j-i),Y.take (j-i),X++S,by rw[hs],by simp;omega,by simp;omega,by simp;omega,?_,by simp only;omega,h8⟩;rw[<-h6,<-List.append_assoc (Y.take (j-i)),List.take_append_drop]
theorem qP.eq {o m n:Nat}{T:List Int}{i:Nat}{cur:List Int}(h:qP o m n T (i,i) cur):jC cur (o+(m-i)) (o+m) i=T:=by
 obtain⟨h1,h2,P,X,Y,S,e,h3,h4,h5,h6,h7,h8⟩:=h;simp only at h1 h2 h4 h5 h7 h8;have hs:=ni X Y P [] S om;rw[show P.length+(X.length+([]:List Int).length)=o+m by simp;omega,show P.length=o+(m-i) by omega,h4] at hs;simp only[List.nil_append] at hs;rw[e,hs,h6]
theorem rot_c {cl:List Spn}{P X Y S:List Int}{o n c a m b:Nat}(hl:(P++(X++(Y++S))).length<=100000) (hX:0<X.length) (hY:0<Y.length) (hp:P.length=o+a) (hm:m=a+X.length) (hb:b=m+Y.length) (hn:b<=n) (hon:o+n<=(P++(X++(Y++S))).length) :
  AC1 Tryz.prog 362 [slO o n c,i64 a,i64 m,i64 b,cH cl] ⟨1,[(0,.cells ((P++(X++(Y++S))).map aa) false)]⟩ (.tup []) ⟨4,[(0,.cells ((P++(Y++(X++S))).map aa) false)]⟩:=by
 refine AC1.of_vf aA T0 Tryz.func362 rfl rfl ?_;generalize hT:P++(Y++(X++S))=T;have hlen:T.length=(P++(X++(Y++S))).length:=by rw[<-hT];simp;omega
 have hI:qP o m n T (X.length,Y.length) (P++(X++(Y++S))):=⟨hX,hY,P,X,Y,S,rfl,by omega,rfl,rfl,hT,by omega,by simp only;omega⟩;generalize hc:P++(X++(Y++S))=cur0 at *;repeat' ((conv=>whnf);first|exact kQ|(refine bk ?_ ?_<;>intro _<;>try(exfalso;omega))|refine stq ?_)
 refine aH.by2 aA T0 (λ(ij:Nat×Nat) (cur:List Int)=>⟨tmp 58 [(0,slO o n c),(2,i64 m),(4,cH cl),(10,i64 (ij.1:Int)),(11,i64 (ij.2:Int))],⟨1,[(0,.cells (cur.map aa) false)]⟩⟩)
  (λij cur=>qP o m n T ij cur∧cur.length=cur0.length) (λij _=>ij.1+ij.2) (X.length,Y.length) cur0 ⟨hI,rfl⟩ ?_ ?_
 ·exact lq0
 intro⟨i,j⟩ cur ⟨h1,h2⟩;have hi0:0<i:=h1.1;have hj0:0<j:=h1.2.1;have him:i<=m:=h1.2.2.elim λ_ h=>h.elim λ_ h=>h.elim λ_ h=>h.elim λ_ h=>h.2.2.2.2.2.2
 have hjn:m+j<=n:=h1.2.2.elim λ_ h=>h.elim λ_ h=>h.elim λ_ h=>h.elim λ_ h=>h.2.2.2.2.2.1
 rcases Nat.lt_trichotomy i j with hlt|he|hgt
 ·have h3:=h1.lt hlt;have hb:=rN (cl:=cl) (l:=cur) (o:=o) (n:=n) (c:=c) (a:=m-i) (b:=m+j-i) (k:=i) om om om om;rw[show((m-i:Nat):Int)=(m:Int)-(i:Int) by omega,show((m+j-i:Nat):Int)=(m:Int)+(j:Int)-(i:Int) by omega] at hb;repeat' ((conv=>whnf);first|exact kQ|(refine bk ?_ ?_<;>intro _<;>try(exfalso;omega))|refine stq ?_|refine Cll.emb hb [(0,0)] [] (.tup []) [(0,.cells ((jC cur (o+(m-i)) (o+(m+j-i)) i).map aa) false)] [] rfl aq bxA rdA bxA reA ?_|fail)
  all_goals(conv=>whnf)
  refine⟨(i,j-i),jC cur (o+(m-i)) (o+(m+j-i)) i,⟨h3,by rw[oO];exact h2⟩,by simp only;omega,?_⟩;exact lq0
 ·subst he;have h3:=h1.eq;have hb:=rN (cl:=cl) (l:=cur) (o:=o) (n:=n) (c:=c) (a:=m-i) (b:=m) (k:=i) om om om om;rw[show((m-i:Nat):Int)=(m:Int)-(i:Int) by omega,h3] at hb;repeat' ((conv=>whnf);first|exact kQ|(refine bk ?_ ?_<;>intro _<;>try(exfalso;omega))|refine stq ?_|refine Cll.emb hb [(0,0)] [] (.tup []) [(0,.cells (T.map aa) false)] [] rfl aq bxA rdA bxA reA ?_|fail)
  all_goals(conv=>whnf)
  refine⟨Or.inl rfl,_,rfl,?_⟩;exact lq0
 ·have h3:=h1.gt hgt;have hb:=rN (cl:=cl) (l:=cur) (o:=o) (n:=n) (c:=c) (a:=m-i) (b:=m) (k:=j) om om om om;rw[show((m-i:Nat):Int)=(m:Int)-(i:Int) by omega] at hb;repeat' ((conv=>whnf);first|exact kQ|(refine bk ?_ ?_<;>intro _<;>try(exfalso;omega))|refine stq ?_|refine Cll.emb hb [(0,0)] [] (.tup []) [(0,.cells ((jC cur (o+(m-i)) (o+m) j).map aa) false)] [] rfl aq bxA rdA bxA reA ?_|fail)
  all_goals(conv=>whnf)
  refine⟨(i-j,j),jC cur (o+(m-i)) (o+m) j,⟨h3,by rw[oO];exact h2⟩,by simp only;omega,?_⟩;exact lq0
end
section
open Go Go.Am
set_option linter.unusedVariables false
section
variable {cls:Int->Int}
theorem gDe {l:List Int}{k:Nat}{d:Int}(h:k<l.length):l.getD k d=l[k]:=by simp[List.getD,List.getElem?_eq_getElem h]
theorem oP (l:List Int){a b:Nat}(h:a≠b):dE l a b=dE l b a:=by unfold dE;exact List.set_comm _ _ h
theorem kl (P:List Int) (x y:Int) (S:List Int):dE (P++x::y::S) P.length (P.length+1)=P++y::x::S:=s6 P x [] y S
theorem Up.get {l:List Int}(h:Up cls l){i j:Nat}(hij:i<=j) (hj:j<l.length):cls (l.getD i 0)<=cls (l.getD j 0):=by
 rw[gDe om,gDe hj];rcases Nat.lt_or_eq_of_le hij with h1|h1
 ·exact List.pairwise_iff_getElem.1 h i j om hj h1
 ·subst h1;exact Int.le_refl _
theorem fY {l:List Int}{n:Nat}{x:Int}(h:x∈l.take n):∃ i,i<n∧i<l.length∧l.getD i 0=x:=by
 obtain⟨i,hi,e⟩:=List.mem_iff_getElem.1 h;rw[List.length_take] at hi;refine⟨i,by omega,by omega,?_⟩;rw[gDe om,<-e,List.getElem_take]
theorem fZ {l:List Int}{n:Nat}{x:Int}(h:x∈l.drop n):∃ i,n<=i∧i<l.length∧l.getD i 0=x:=by
 obtain⟨i,hi,e⟩:=List.mem_iff_getElem.1 h;rw[List.length_drop] at hi;refine⟨n+i,by omega,by omega,?_⟩;rw[gDe om,<-e,List.getElem_drop]
theorem BQ (A:List Int) (y:List Int):can cls (can cls A++y)=can cls (A++y):=(Sw.app (gU (cls:=cls) A) (Sw.refl (cls:=cls) y)).same.symm
theorem Up.same {l:List Int}(h:Up cls l):can cls l=l:=h.ord.same
theorem Mk.left {a b:List Int}(h:Mk cls (a++b)):Mk cls a:=λx hx=>h x (List.mem_append_left _ hx)
theorem Mk.right {a b:List Int}(h:Mk cls (a++b)):Mk cls b:=λx hx=>h x (List.mem_append_right _ hx)
theorem Up.left {a b:List Int}(h:Up cls (a++b)):Up cls a:=(List.pairwise_append.1 h).1
theorem Up.right {a b:List Int}(h:Up cls (a++b)):Up cls b:=(List.pairwise_append.1 h).2.1
def i6 (cls:Int->Int) (P A:List Int) (y:Int) (R:List Int) (j:Nat) (cur:List Int):Prop:=
 ∃ B1 B2:List Int,can cls A=B1++B2∧cur=P++(B1++y::(B2++R))∧B1.length=j∧∀ b∈B2,cls y<cls b
theorem i6.start (P A:List Int) (y:Int) (R:List Int):i6 cls P A y R A.length (P++(can cls A++y::R)):=
 ⟨can cls A,[],by simp,by simp,(cX A).length_eq,by simp⟩
theorem i6.done {P A:List Int}{y:Int}{R:List Int}{cur:List Int}{B1 B2:List Int}(hm:Mk cls (A++[y])) (h1:can cls A=B1++B2) (h2:cur=P++(B1++y::(B2++R))) (h3:∀ b∈B2,cls y<cls b) (h4:∀ b∈B1,cls b<=cls y):cur=P++(can cls (A++[y])++R):=by
 have hk:Mk cls (B1++B2):=by rw[<-h1];exact λx hx=>hm x (List.mem_append_left _ (l9.1 hx))
 have hu:Up cls (B1++B2):=by rw[<-h1];exact ji hm.left
 rw[<-BQ,h1,uW hk (hm y si) hu h4 h3,h2];simp
theorem i6.zero {P A:List Int}{y:Int}{R:List Int}{cur:List Int}(h:i6 cls P A y R 0 cur) (hm:Mk cls (A++[y])):cur=P++(can cls (A++[y])++R):=by
 obtain⟨B1,B2,h1,h2,h3,h4⟩:=h;obtain rfl:=List.length_eq_zero_iff.1 h3;exact i6.done hm h1 h2 h4 si
theorem i6.len {P A:List Int}{y:Int}{R:List Int}{j:Nat}{cur:List Int}(h:i6 cls P A y R j cur):cur.length=P.length+(A.length+(R.length+1))∧j<=A.length:=by
 obtain⟨B1,B2,h1,h2,h3,h4⟩:=h;have:=(cX (cls:=cls) A).length_eq
 rw[h1,kG] at this;rw[h2];simp only[kG,kO];omega
theorem i6.here {P A:List Int}{y:Int}{R:List Int}{j:Nat}{cur:List Int}(h:i6 cls P A y R j cur){k:Nat}(hk:k=P.length+j):cur.getD k 0=y:=by
 obtain⟨B1,B2,h1,h2,h3,h4⟩:=h;subst hk;rw[h2,List.getD_eq_getElem?_getD,List.getElem?_append_right om,List.getElem?_append_right om,show P.length+j-P.length-B1.length=0 by omega];rfl
theorem i6.more {P A:List Int}{y:Int}{R:List Int}{j:Nat}{cur:List Int}(h:i6 cls P A y R (j+1) cur) (hlt:cls y<cls (cur.getD (P.length+j) 0)):i6 cls P A y R j (dE cur (P.length+(j+1)) (P.length+j)):=by
 obtain⟨B1,B2,h1,h2,h3,h4⟩:=h;rcases List.eq_nil_or_concat B1 with rfl|⟨C,z,rfl⟩
 ·simp at h3
 simp only[List.concat_eq_append,kG,List.length_singleton] at h3 h1 h2;have hj:C.length=j:=by omega
 subst hj;have e1:cur=(P++C)++z::y::(B2++R):=by rw[h2];simp
 have e2:cur.getD (P.length+C.length) 0=z:=by
  rw[e1,<-kG,List.getD_eq_getElem?_getD,List.getElem?_append_right om,Nat.sub_self];rfl
 rw[e2] at hlt;rw[oP _ om,e1,<-kG,show P.length+(C.length+1)=(P++C).length+1 by simp;omega,kl];refine⟨C,z::B2,by rw[h1];simp,by simp,rfl,λb hb=>?_⟩;rcases List.mem_cons.1 hb with rfl|hb
 ·exact hlt
 ·exact h4 b hb
theorem i6.stop {P A:List Int}{y:Int}{R:List Int}{j:Nat}{cur:List Int}(h:i6 cls P A y R (j+1) cur) (hm:Mk cls (A++[y])) (hlt:¬cls y<cls (cur.getD (P.length+j) 0)):cur=P++(can cls (A++[y])++R):=by
 obtain⟨B1,B2,h1,h2,h3,h4⟩:=h;refine i6.done hm h1 h2 h4 λb hb=>?_
 have hu:Up cls (B1++B2):=by rw[<-h1];exact ji hm.left
 obtain⟨i,hi,e⟩:=List.mem_iff_getElem.1 hb;have h5:=(Up.left hu).get (i:=i) (j:=j) om om
 have e2:cur.getD (P.length+j) 0=B1.getD j 0:=by
  rw[h2,List.getD_eq_getElem?_getD,List.getD_eq_getElem?_getD,List.getElem?_append_right om,Nat.add_sub_cancel_left,List.getElem?_append_left om]
 rw[gDe hi,e] at h5;rw[e2] at hlt;omega
theorem ya {x:Int}{B:List Int}{k:Nat}(hm:Mk cls (x::B)) (hu:Up cls B) (hk:k<=B.length) (h1:∀ i,i<k->cls (B.getD i 0)<cls x) (h2:∀ i,k<=i->i<B.length->¬cls (B.getD i 0)<cls x):can cls (x::B)=B.take k++x::B.drop k:=by
 have e:B.take k++B.drop k=B:=List.take_append_drop k B
 have h:=yu (cls:=cls) (x:=x) (A:=B.take k) (B:=B.drop k) (by rw[e];exact λz hz=>hm z (List.mem_cons_of_mem _ hz)) (hm x si) (by rw[e];exact hu)
  (λy hy=>by obtain⟨i,a,b,c⟩:=fY hy;rw[<-c];exact h1 i a)
  (λy hy=>by obtain⟨i,a,b,c⟩:=fZ hy;rw[<-c];have:=h2 i a b;omega)
 rwa [e] at h
theorem BV {y:Int}{A:List Int}{k:Nat}(hm:Mk cls (A++[y])) (hu:Up cls A) (hk:k<=A.length) (h1:∀ i,i<k->¬cls y<cls (A.getD i 0)) (h2:∀ i,k<=i->i<A.length->cls y<cls (A.getD i 0)):can cls (A++[y])=A.take k++y::A.drop k:=by
 have e:A.take k++A.drop k=A:=List.take_append_drop k A
 have h:=uW (cls:=cls) (y:=y) (A:=A.take k) (B:=A.drop k) (by rw[e];exact hm.left) (hm y si) (by rw[e];exact hu)
  (λx hx=>by obtain⟨i,a,b,c⟩:=fY hx;rw[<-c];have:=h1 i a;omega)
  (λx hx=>by obtain⟨i,a,b,c⟩:=fZ hx;rw[<-c];exact h2 i a b)
 rwa [e] at h
theorem CU {A B:List Int}{s t:Nat}(hm:Mk cls (A++B)) (hA:Up cls A) (hB:Up cls B) (hs:s<=A.length) (ht:t<=B.length)
  (h1:s=A.length∨t=0∨cls (B.getD (t-1) 0)<cls (A.getD s 0)) (h2:s=0∨t=B.length∨¬cls (B.getD t 0)<cls (A.getD (s-1) 0)) :
  can cls (A++B)=can cls (A.take s++B.take t)++can cls (A.drop s++B.drop t):=by
 have eA:A.take s++A.drop s=A:=List.take_append_drop s A;have eB:B.take t++B.drop t=B:=List.take_append_drop t B
 have h:=yr (cls:=cls) (U:=A.take s) (X:=A.drop s) (Y:=B.take t) (V:=B.drop t) (λz hz=>hm z (List.mem_append_left _ (List.mem_of_mem_take hz))) (λz hz=>hm z (List.mem_append_left _ (List.mem_of_mem_drop hz)))
  (λz hz=>hm z (List.mem_append_right _ (List.mem_of_mem_take hz))) (λz hz=>hm z (List.mem_append_right _ (List.mem_of_mem_drop hz))) (by rw[eA];exact hA) (by rw[eB];exact hB)
  (λx hx y hy=>by
   obtain⟨i,a1,a2,a3⟩:=fZ hx;obtain⟨j,b1,b2,b3⟩:=fY hy;rw[<-a3,<-b3];rcases h1 with h1|h1|h1
   ·omega
   ·omega
   ·have q1:=hA.get (i:=s) (j:=i) a1 a2;have q2:=hB.get (i:=j) (j:=t-1) om om
    omega)
  (λu hu v hv=>by
   obtain⟨i,a1,a2,a3⟩:=fY hu;obtain⟨j,b1,b2,b3⟩:=fZ hv;rw[<-a3,<-b3];rcases h2 with h2|h2|h2
   ·omega
   ·omega
   ·have q1:=hA.get (i:=i) (j:=s-1) om om;have q2:=hB.get (i:=t) (j:=j) b1 b2
    omega)
 rwa [eA,eB] at h
theorem mu {P A S:List Int}{k:Nat}(h1:P.length<=k) (h2:k<P.length+A.length):(P++(A++S)).getD k 0=A.getD (k-P.length) 0:=by
 rw[List.getD_eq_getElem?_getD,List.getD_eq_getElem?_getD,List.getElem?_append_right h1,List.getElem?_append_left om]
theorem sJ {P A B S:List Int}{k:Nat}(h1:P.length+A.length<=k) (h2:k<P.length+A.length+B.length):(P++(A++(B++S))).getD k 0=B.getD (k-(P.length+A.length)) 0:=by
 rw[<-List.append_assoc];have:=mu (P:=P++A) (A:=B) (S:=S) (k:=k) (by simp;omega) (by simp;omega)
 rwa [kG] at this
structure SmI (cls:Int->Int) (A B:List Int) (a m b s0 r0:Nat) (st r:Nat):Prop where
 le:s0<=st∧st<=r∧r<=r0
 lo:∀ c,s0<=c->c<st->¬cls (B.getD ((a+b) / 2-1-c) 0)<cls (A.getD (c-a) 0)
 hi:∀ c,r<=c->c<r0->cls (B.getD ((a+b) / 2-1-c) 0)<cls (A.getD (c-a) 0)
theorem SmI.up {A B:List Int}{a m b s0 r0 st r c:Nat}(h:SmI cls A B a m b s0 r0 st r) (hA:Up cls A) (hB:Up cls B) (hal:a+A.length=m) (hbl:m+B.length=b) (hr0:r0<=m∧r0<=(a+b) / 2) (hs0:a<=s0∧(a+b) / 2+m<=b+s0) (h1:st<=c) (h2:c<r)
  (hc:¬cls (B.getD ((a+b) / 2-1-c) 0)<cls (A.getD (c-a) 0)):SmI cls A B a m b s0 r0 (c+1) r:=by
 have hle:=h.le;refine⟨by omega,λk hk1 hk2=>?_,h.hi⟩;have q1:=hA.get (i:=k-a) (j:=c-a) om om;have q2:=hB.get (i:=(a+b) / 2-1-c) (j:=(a+b) / 2-1-k) om om;omega
theorem SmI.down {A B:List Int}{a m b s0 r0 st r c:Nat}(h:SmI cls A B a m b s0 r0 st r) (hA:Up cls A) (hB:Up cls B) (hal:a+A.length=m) (hbl:m+B.length=b) (hr0:r0<=m∧r0<=(a+b) / 2) (hs0:a<=s0∧(a+b) / 2+m<=b+s0) (h1:st<=c) (h2:c<r)
  (hc:cls (B.getD ((a+b) / 2-1-c) 0)<cls (A.getD (c-a) 0)):SmI cls A B a m b s0 r0 st c:=by
 have hle:=h.le;refine⟨by omega,h.lo,λk hk1 hk2=>?_⟩;have q1:=hA.get (i:=c-a) (j:=k-a) om om;have q2:=hB.get (i:=(a+b) / 2-1-k) (j:=(a+b) / 2-1-c) om om;omega
theorem SmI.cut {A B:List Int}{a m b s0 r0 s:Nat}(h:SmI cls A B a m b s0 r0 s s) (hm:Mk cls (A++B)) (hA:Up cls A) (hB:Up cls B) (hal:a+A.length=m) (hbl:m+B.length=b)
  (hw:((a+b) / 2<m∧s0+b=(a+b) / 2+m∧r0=(a+b) / 2)∨(m<=(a+b) / 2∧s0=a∧r0=m)) :
  can cls (A++B)=can cls (A.take (s-a)++B.take ((a+b) / 2-s))++can cls (A.drop (s-a)++B.drop ((a+b) / 2-s)):=by
 have hle:=h.le;refine CU hm hA hB om om ?_ ?_
 ·by_cases hs:s<r0
  ·have:=h.hi s om hs
   exact .inr (.inr (by rw[show(a+b) / 2-s-1=(a+b) / 2-1-s by omega];exact this))
  ·rcases hw with hw|hw
   ·exact .inr (.inl om)
   ·exact .inl om
 ·by_cases hs:s0<s
  ·have:=h.lo (s-1) om om
   exact .inr (.inr (by rw[show s-a-1=s-1-a by omega,show(a+b) / 2-s=(a+b) / 2-1-(s-1) by omega];exact this))
  ·rcases hw with hw|hw
   ·exact .inr (.inl om)
   ·exact .inl om
theorem Up.sub {l:List Int}(h:Up cls l) (i n:Nat):Up cls ((l.drop i).take n):=List.Pairwise.sublist ((List.take_sublist _ _).trans (List.drop_sublist _ _)) h
inductive Bk (cls:Int->Int) (z:Nat):List Int->Prop
 | last {l:List Int}:l.length<=z->Up cls l->Bk cls z l
 | cons {A R:List Int}:A.length=z->Up cls A->Bk cls z R->Bk cls z (A++R)
inductive Bf (cls:Int->Int) (z:Nat):List Int->Prop
 | nil:Bf cls z []
 | snoc {D A:List Int}:Bf cls z D->A.length=z->Up cls A->Bf cls z (D++A)
theorem Bf.app {z:Nat}{D:List Int}(h:Bf cls z D):∀ {R:List Int},Bk cls z R->Bk cls z (D++R):=by
 induction h with
 | nil=>intro R hR;exact hR
 | snoc _ h2 h3 ih=>intro R hR;rw[List.append_assoc];exact ih (.cons h2 h3 hR)
theorem Bk.up {z:Nat}{R:List Int}(h:Bk cls z R) (hl:R.length<=z):Up cls R:=by
 cases h with
 | last _ h=>exact h
 | cons h1 h2 h3=>
  rename_i A R;rw[kG] at hl;rw[List.length_eq_zero_iff.1 (by omega:R.length=0),List.append_nil];exact h2
theorem Bk.one {z:Nat}{R:List Int}(h:Bk cls z R) (h1:z<R.length) (h2:R.length<z+z):∃ A B,R=A++B∧A.length=z∧0<B.length∧Up cls A∧Up cls B:=by
 cases h with
 | last h=>omega
 | cons h3 h4 h5=>
  rename_i A R;rw[kG] at h1 h2;exact⟨A,R,rfl,h3,by omega,h4,h5.up om⟩
theorem Bk.two {z:Nat}{R:List Int}(h:Bk cls z R) (hz:0<z) (h1:z+z<=R.length):∃ A B R',R=A++(B++R')∧A.length=z∧B.length=z∧Up cls A∧Up cls B∧Bk cls z R':=by
 cases h with
 | last h=>omega
 | cons h3 h4 h5=>
  rename_i A R;rw[kG] at h1;cases h5 with
  | last h6 h7=>exact⟨A,R,[],by simp,h3,by omega,h4,h7,.last si .nil⟩
  | cons h6 h7 h8=>rename_i B R;exact⟨A,B,R,rfl,h3,h6,h4,h7,h8⟩
end
end
section
open Go Go.Am Classical
set_option maxRecDepth 100000
set_option linter.unusedVariables false
theorem xNW.rdX {p:Prop}(h:p:=by first|exact Rd.same (nbF _)|fail):p:=h
theorem xNW.rbX {p:Prop}(h:p:=by first|exact Rb.cells (Rds.eqs (jo om om) (aN (λ_=>rfl) _)) rfl|exact Rb.cells (Rds.eqs (by first|(rw[h1];done)|fail) (aN (λ_=>rfl) _)) rfl|exact Rb.cells (Rds.eqs (by first|(rw[e2,hR];done)|fail) (aN (λ_=>rfl) _)) rfl|fail):p:=h
open xNW
theorem arg2 {cl:List Spn}{x y:Int}(e:[cB cl,i64 y]=[cB cl,i64 x]):i64 (aK cl x)=i64 (aK cl y):=by
 injection e with _ e;injection e with e _;injection e with e;injection e with _ e;rw[e]
theorem rP {cl:List Spn}(hn:cl.length<=1000) (hr:ic cl){x y:Int}:Pu Tryz.prog 267 [i64 x,i64 y,.iptr [cB cl]] (i64 (dF (aK cl x) (aK cl y))):=by
 refine pv Tryz.func267 ?_;repeat' ((conv=>whnf);first|exact kQ|(refine bk ?_ ?_<;>intro _<;>try(exfalso;omega))|refine stq ?_|refine ab.by (id:=1) aA T0 [0,0,3,0,0,31,63,127] (by kernel_rfl) ?_|refine cp (lz hn hr) ?_|refine cp cq ?_|refine Chk.mk (λe=>arg2 e) ?_|refine Chk.mk ⟨_,rfl⟩ ?_|fail)
 all_goals(conv=>whnf)
 exact aI.int rfl
set_option maxHeartbeats 4000000 in
theorem Df {cl:List Spn}(hcl:cl.length<=1000) (hr:ic cl){P A S:List Int}{o n c a b:Nat}(hl:(P++(A++S)).length<=100000) (hp:P.length=o+a) (hb:b=a+A.length) (hbn:b<=n) (hon:o+n<=(P++(A++S)).length) (hm:Mk (aK cl) A) :
  AC1 Tryz.prog 354 [slO o n c,i64 a,i64 b,cH cl] ⟨1,[(0,.cells ((P++(A++S)).map aa) false)]⟩ (.tup []) ⟨4,[(0,.cells ((P++(can (aK cl) A++S)).map aa) false)]⟩:=by
 refine AC1.of_vf aA T0 Tryz.func354 rfl rfl ?_;simp only[kG] at hl hon
 have h1:can (aK cl) (A.take 1)++(A.drop 1++S)=A++S:=by
  cases A with
  | nil=>rfl
  | cons x A=>rfl
 repeat' ((conv=>whnf);first|exact kQ|(refine bk ?_ ?_<;>intro _<;>try(exfalso;omega))|refine stq ?_)
 refine aH.by aA T0 (λi:Nat=>⟨tmp 53 [(0,slO o n c),(1,i64 a),(2,i64 b),(3,cH cl),(8,i64 ((a+(i+1):Nat):Int))],⟨1,[(0,.cells ((P++(can (aK cl) (A.take (i+1))++(A.drop (i+1)++S))).map aa) false)]⟩⟩)
  (λi=>i<=A.length) (λi=>A.length-i) 0 om ?_ ?_
 ·exact lq0
 intro i h2;by_cases h3:i+1<A.length
 ·have e1:A.drop (i+1)=A[i+1]::A.drop (i+2):=kK h3;have e2:A.take (i+2)=A.take (i+1)++[A[i+1]]:=by rw[List.take_succ_eq_append_getElem h3]
  have hmk:Mk (aK cl) (A.take (i+1)++[A[i+1]]):=by rw[<-e2];exact λx hx=>hm x (List.mem_of_mem_take hx)
  have hI:=i6.start (cls:=aK cl) P (A.take (i+1)) A[i+1] (A.drop (i+2)++S);rw[show(A.take (i+1)).length=i+1 by simp;omega] at hI;rw[e1];have e3:(P++(can (aK cl) (A.take (i+1))++(A[i+1]::A.drop (i+2)++S)))=P++(can (aK cl) (A.take (i+1))++A[i+1]::(A.drop (i+2)++S)):=rfl;rw[e3];generalize A[i+1]=y at *;have hla:(A.take (i+1)).length=i+1:=by simp;omega
  generalize A.take (i+1)=A' at *;have hlr:(A.drop (i+2)++S).length+(i+2)=A.length+S.length:=by simp;omega
  generalize hR:A.drop (i+2)++S=R at *;generalize P++(can (aK cl) A' ++ y::R)=cur0 at *;repeat' ((conv=>whnf);first|exact kQ|(refine bk ?_ ?_<;>intro _<;>try(exfalso;omega))|refine stq ?_|fail)
  refine aH.by2 aA T0 (λ(j:Nat) (cur:List Int)=>⟨tmp 53 [(0,slO o n c),(1,i64 a),(2,i64 b),(3,cH cl),(8,i64 ((a+(i+1):Nat):Int)),(9,i64 ((a+j:Nat):Int))],⟨1,[(0,.cells (cur.map aa) false)]⟩⟩)
   (λj cur=>i6 (aK cl) P A' y R j cur) (λj _=>j) (i+1) cur0 hI ?_ ?_
  ·exact lq0
  intro j cur h4;have h5:=h4.len;cases j with
  | zero=>
   have h6:=h4.zero hmk;subst h6;repeat' ((conv=>whnf);first|exact kQ|(refine bk ?_ ?_<;>intro _<;>try(exfalso;omega))|refine stq ?_|refine ab.by (id:=4) aA T0 [0,0,3,7,15,15,15,111,239,15,15,1039,3599,7695,16383,32767,65535] (by kernel_rfl) ?_|fail)
   all_goals(conv=>whnf)
   refine⟨i+1,by omega,by omega,?_⟩;exact lq0
  | succ j=>
   have e4:cur.getD (P.length+j) 0=cur[o+(a+j)]'(by omega):=by rw[show P.length+j=o+(a+j) by omega];exact cE _
   have e5:y=cur[o+(a+(j+1))]'(by omega):=by rw[<-h4.here (k:=o+(a+(j+1))) om];exact cE _
   repeat' ((conv=>whnf);first|exact kQ|(refine bk ?_ ?_<;>intro _<;>try(exfalso;omega))|refine stq ?_|refine ab.by (id:=4) aA T0 [0,0,3,7,15,15,15,111,239,15,15,1039,3599,7695,16383,32767,65535] (by kernel_rfl) ?_|refine ab.by (id:=6) aA T0 [0,0,0,0,8,0,0,64,224,480,0,0,3072,7168,16355,32739,65535,131071] (by kernel_rfl) ?_|refine cp (rP hcl hr) ?_|refine az.at (a+(j+1)) om om ?_|refine az.at (a+j) om om ?_|refine Get.mapO om ?_|refine Put.oneO (by simp;omega) ?_|fail)
   all_goals(conv=>whnf)
   ·have hlt:aK cl y<aK cl (cur.getD (P.length+j) 0):=by rw[e4,e5];exact ep.1 asm
    have h6:=h4.more hlt;rw[show P.length+(j+1)=o+(a+(j+1)) by omega,show P.length+j=o+(a+j) by omega] at h6;refine⟨j,_,h6,by omega,?_⟩;exact lq0
   ·have hlt:¬aK cl y<aK cl (cur.getD (P.length+j) 0):=by rw[e4,e5];exact λh=>absurd (ep.2 h) asm
    have h6:=h4.stop hmk hlt;subst h6;refine⟨i+1,by omega,by omega,?_⟩;exact lq0
 ·rw[kE om,List.drop_of_length_le om,List.nil_append];repeat' ((conv=>whnf);first|exact kQ|(refine bk ?_ ?_<;>intro _<;>try(exfalso;omega))|refine stq ?_|fail)
  all_goals(conv=>whnf)
  refine⟨Or.inl rfl,_,rfl,?_⟩;exact lq0
end
end Go.Proofs.YticpeeooobajgaaGreatDoor
