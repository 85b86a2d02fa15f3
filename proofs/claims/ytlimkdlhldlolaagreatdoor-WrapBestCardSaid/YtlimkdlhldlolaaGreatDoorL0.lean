/-
  Contracts of functions over data: boundaries and ranges of a text by a table (the program).
-/
import Derived.Test.YtlimkdlhldlolaaGreatDoorG0
set_option linter.unusedSectionVars false
namespace Go.Proofs.YtlimkdlhldlolaaGreatDoor
open Go Go.Am
set_option maxRecDepth 100000
section
open Classical
variable [GT]
def ends (l:List Int) (k:Nat):List Int:=((List.range k).filter λi=>decide (l.getD i 0≠1)).map λ(i:Nat)=>(i:Int)
theorem nX {l:List Int}{k:Nat}(h:k<l.length) (e:¬l[k]=1):ends l (k+1)=ends l k++[(k:Int)]:=by
 have this:l.getD k 0≠1:=by rw[aH h];exact e
 unfold ends;rw[List.range_succ,List.filter_append,List.map_append,List.filter_cons_of_pos (p:=λi=>decide (l.getD i 0≠1)) (a:=k) (decide_eq_true this)];rfl
theorem pf {l:List Int}{k:Nat}(h:k<l.length) (e:l[k]=1):ends l (k+1)=ends l k:=by
 have this:l.getD k 0=1:=by rw[aH h];exact e
 unfold ends;rw[List.range_succ,List.filter_append,List.map_append,List.filter_cons_of_neg (p:=λi=>decide (l.getD i 0≠1)) (a:=k) (λh=>absurd this (of_decide_eq_true h)),List.filter_nil,List.map_nil,List.append_nil]
theorem rZ {l:List Int}{k:Nat}:(ends l k).length<=k:=by
 simp only[ends,List.length_map];refine Nat.le_trans (List.length_filter_le _ _) si
theorem Ga {p:Prp}{t:Tbl}{text:List Int}(h:text.length<=1000):(cn p t text).length<=1001:=by
 unfold cn;split
 .rw[cm];simp[aW];omega
 .simp
noncomputable def yc (p:Prp) (t:Tbl) (text:List Int):List Int:=ends (cn p t text) (cn p t text).length
theorem Iw {p:Prp}{t:Tbl}{text:List Int}(h:text.length<=1000):(yc p t text).length<=1001:=by
 have:=rZ (l:=cn p t text) (k:=(cn p t text).length)
 have:=Ga (p:=p) (t:=t) h
 unfold yc;omega
noncomputable def qY (p:Prp) (t:Tbl) (text:List Int):List Rng:=if TV t then btw 0 (yc p t text++[(text.length:Int)]) else []
end
section
open Classical
variable [GT]
def ptF (n:Int):Int->Int->List Int->List Rng
 | _,_,[]=>[]
 | i,s,a::l=>if i=s\/(a=1/\i<n-1) then ptF n (i+1) s l else⟨s,i⟩::ptF n (i+1) i l
def pN:Int->List Int->List Int
 | _,[]=>[]
 | i,a::l=>if a≠1 then i::pN (i+1) l else pN (i+1) l
theorem uu {n:Int}:∀ (l:List Int) (i s:Int),s<=i->i+l.length=n->l≠[]->ptF n i s l=btw s (pN i l++[n-1])
 | [],_,_,_,_,h=>absurd rfl h
 | [a],i,s,h1,h2,_=>by
  simp only[List.length_singleton] at h2;have e:n-1=i:=om;rw[e];simp only[ptF,pN,e,Int.lt_irrefl,and_false,or_false];by_cases h:i=s
  .subst h;by_cases ha:a=1<;>simp[ha,btw]
  .have:s<i:=om
   by_cases ha:a=1<;>simp[h,ha,btw,this]
 | a::b::l,i,s,h1,h2,_=>by
  have hlen:i+1+((b::l).length:Int)=n:=by simp only[kO] at h2 ⊢;omega
  have hi:i<n-1:=by simp only[kO] at h2;omega
  have e1:ptF n i s (a::b::l)=if i=s\/(a=1/\i<n-1) then ptF n (i+1) s (b::l) else⟨s,i⟩::ptF n (i+1) i (b::l):=rfl
  have e2:pN i (a::b::l)=if a≠1 then i::pN (i+1) (b::l) else pN (i+1) (b::l):=rfl
  rw[e1,e2];have q1:=uu (b::l) (i+1) s om hlen si;have q2:=uu (b::l) (i+1) i om hlen si;by_cases h:i=s
  .rw[if_pos (.inl h),q1];by_cases ha:a=1
   .rw[if_neg (by simpa using ha)]
   .rw[if_pos ha,List.cons_append,btw,if_neg om]
  .by_cases ha:a=1
   .rw[if_pos (.inr ⟨ha,hi⟩),if_neg (by simpa using ha),q1]
   .rw[if_neg (by intro hc;rcases hc with hc|hc;exact h hc;exact ha hc.1),if_pos ha,List.cons_append,btw,if_pos om,q2]
theorem Ba:∀ (l:List Int) (i:Int),pN i l=((List.range l.length).filter λj=>decide (l.getD j 0≠1)).map λ(j:Nat)=>i+(j:Int)
 | [],_=>rfl
 | a::l,i=>by
  have ih:=Ba l (i+1);have e1:pN i (a::l)=if a≠1 then i::pN (i+1) l else pN (i+1) l:=rfl
  have e3:∀ (f:Nat->Int),(((List.range l.length).map Nat.succ).filter λj=>decide ((a::l).getD j 0≠1)).map f=((List.range l.length).filter λj=>decide (l.getD j 0≠1)).map λj=>f (j+1):=by
   intro f;rw[List.filter_map,List.map_map];rfl
  rw[e1,kO,List.range_succ_eq_map,ih];have e4:(λj:Nat=>i+1+(j:Int))=λj:Nat=>i+((j+1:Nat):Int):=by funext j;omega
  by_cases ha:a=1
  .rw[if_neg (by simpa using ha),List.filter_cons_of_neg (p:=λj=>decide ((a::l).getD j 0≠1)) (a:=0) (by simp[ha]),e3,e4]
  .rw[if_pos ha,List.filter_cons_of_pos (p:=λj=>decide ((a::l).getD j 0≠1)) (a:=0) (by simp[ha]),List.map_cons,e3,e4];simp
theorem DG (l:List Int):ends l l.length=pN 0 l:=by
 rw[Ba,ends];congr 1;funext j;omega
def ptV (l:List Int):List Rng:=ptF l.length 0 0 l
theorem Hj {p:Prp}{t:Tbl}{text:List Int}:ptV (cn p t text)=qY p t text:=by
 unfold ptV qY yc;by_cases hv:TV t
 .have hl:(cn p t text).length=text.length+1:=by rw[cn,if_pos hv,cm];simp[aW]
  rw[if_pos hv,DG,uu _ _ _ om om (by intro h;rw[h] at hl;simp at hl),hl];congr 3;omega
 .rw[if_neg hv,cn,if_neg hv];rfl
end
section
open Classical
theorem xL2.rdX {p:Prop}(h:p:=by first|exact Rd.yf rfl|exact Rd.same (by first|(simp[aK,aF,aM];done)|fail)|exact Rd.sl' rfl sim sim|fail):p:=h
theorem xL2.rbX {p:Prop}(h:p:=by first|exact Rb.dfr|exact rb95|exact Rb.cells (Rds.eqs (aQ (c:=bm) (sz:=2) (by intro _;rfl) (x::xs) (⟨s,k⟩:Rng)) (aE (by intro _;rfl) _)) rfl|fail):p:=h
open xL2
variable [GT]
theorem EQ {l:List Int}:Pk Tryz.prog 161 [aC l] 1 (λn=>.fn (.func 195) [] [.ptr n 0]) (λn=>[(n,.cells [aC l] true)]):=by
 refine Pk.of_v aB T0 Tryz.func161 rfl rfl (by simp[aF,aM]) ?_;repeat' ((conv=>whnf);first|exact kQ|(refine bk ?_ ?_<;>intro _<;>try exact exo)|refine stq ?_)
 (conv=>whnf)
 exact⟨[0],rfl,⟨si,λn=>.fn .nil (.cons (.ptr (by simp[sgn])) .nil),λn=>.cons (id:=0) (by simp[sgn]) rfl rfl (.cells (.cons (.same (aM l)) .nil) rfl) .nil⟩⟩
noncomputable abbrev qx (l:List Int):Box:=.loop .ready none [aJ,.fn (.func 195) [] [.iptr [aC l]],.ptr 0 0,aO,aJ,aO,.fn (.func 195) [] [.iptr [aC l]],aO,aO,aO,aO,aO,aO] [7] (fnA Tryz.f194) (fnB Tryz.f194)
theorem En {n i s a:Int}{l:List Int}(h:i=s\/(a=1/\i<n-1)):ptF n i s (a::l)=ptF n (i+1) s l:=by rw[ptF,if_pos h]
theorem pU {n i s a:Int}{l:List Int}(h:¬(i=s\/(a=1/\i<n-1))):ptF n i s (a::l)=⟨s,i⟩::ptF n (i+1) i l:=by rw[ptF,if_neg h]
theorem rb95 {h:aA}{fz:Nat->Bool}{σl:List (Nat×Nat)}{l:List Int}:Rb h fz (sgm 5 σl) (qx l) (qx l):=
 .loop (by repeat(first|exact Rds.nil|refine Rds.cons (by first|exact Rd.same rfl|exact Rd.ptr rfl|exact Rd.same (by simp[aK,aF,aM])) ?_))
set_option maxHeartbeats 1600000 in
theorem zg {l:List Int}(hx:l.length<=1001):AC1 Tryz.prog 195 [.yf 4,.iptr [aC l]] ⟨5,[(4,qx l),(3,.dfr),(0,.cells [aJ] true)]⟩ (.tup []) ⟨7,bS 5 bm (ptV l)++[(4,qx l),(3,.dfr),(0,.cells [aP 5 2 (ptV l)] true)]⟩:=by
 refine AC1.of_vl aB T0 Tryz.func195 rfl rfl ?_;repeat' ((conv=>whnf);first|exact kQ|(refine bk ?_ ?_<;>intro _<;>try exact exo)|refine stq ?_)
 (conv=>whnf)
 refine aG.by3 aB T0 (λ(k:Nat) (s:Int) (o:List Rng)=>⟨tmp 35 [(0,.yf 4),(1,.iptr [aC l]),(3,i64 s),(6,aC l),(7,i64 l.length),(8,i64 (k:Int))],⟨6,bS 5 bm o++[(4,qx l),(3,.dfr),(0,.cells [aP 5 2 o] true)]⟩⟩)
  (λk s o=>(k<=l.length/\o.length<=k)/\ptV l=o++ptF l.length k s (l.drop k)) (λk _ _=>l.length-k) 0 0 [] ⟨⟨om,si⟩,rfl⟩ ?_ ?_
 .exact lq0
 intro k s o ⟨⟨h3,h5⟩,h4⟩;cases o with
 | nil=>
  repeat' ((conv=>whnf);first|exact kQ|(refine bk ?_ ?_<;>intro _<;>try exact exo)|refine stq ?_|(apply Yll.sv rfl rfl (SvR.region T0 ?_);rotate_left)|exact And.intro rfl rfl|refine And.intro rfl (SvR.block (SvR.region T0 ?_))|fail)
  all_goals(conv=>whnf)
  all_goals first
   | (refine⟨k+1,s,[],⟨⟨om,si⟩,by rw[h4,kK om,En (by first|(left;omega)|(right;omega))];rfl⟩,om,?_⟩
      exact lq0)
   | (have h9:l[k]'(by omega)=1:=by assumption
      refine⟨k+1,k,[⟨s,k⟩],⟨⟨om,si⟩,by rw[h4,kK om,pU om];rfl⟩,om,?_⟩
      exact lq [(5,36)] [])
   | (refine⟨k+1,k,[⟨s,k⟩],⟨⟨om,si⟩,by rw[h4,kK om,pU om];rfl⟩,om,?_⟩
      exact lq [(5,31)] [])
   | (refine⟨Or.inl rfl,rfl,?_⟩
      rw[h4,List.drop_of_length_le om]
      rfl)
 | cons x xs=>
  have hlen:(x::xs).length<=1001:=by omega
  repeat' ((conv=>whnf);first|exact kQ|(refine bk ?_ ?_<;>intro _<;>try exact exo)|refine stq ?_|(apply Yll.sv rfl rfl (SvR.region T0 ?_);rotate_left)|exact And.intro rfl rfl|refine And.intro rfl (SvR.block (SvR.region T0 ?_))|fail)
  all_goals(conv=>whnf)
  all_goals first
   | (refine⟨k+1,s,x::xs,⟨⟨om,om⟩,by rw[h4,kK om,En (by first|(left;omega)|(right;omega))];rfl⟩,om,?_⟩
      exact lq [(5,5)] [])
   | (have h9:l[k]'(by omega)=1:=by assumption
      refine⟨k+1,k,(x::xs)++[⟨s,k⟩],⟨⟨om,by simp only[kG,List.length_singleton];omega⟩,by rw[h4,kK om,pU om,List.append_assoc];rfl⟩,om,?_⟩
      exact lq [(5,36)] [])
   | (refine⟨k+1,k,(x::xs)++[⟨s,k⟩],⟨⟨om,by simp only[kG,List.length_singleton];omega⟩,by rw[h4,kK om,pU om,List.append_assoc];rfl⟩,om,?_⟩
      exact lq [(5,31)] [])
   | (refine⟨Or.inl rfl,rfl,?_⟩
      rw[h4,List.drop_of_length_le om,ptF,List.append_nil]
      rfl)
theorem y6 {l:List Int}(hx:l.length<=1001):Pu Tryz.prog 194 [aJ,.fn (.func 195) [] [.iptr [aC l]]] (ax (ptV l)):=by
 have h1:=zg hx;refine Pu.of_fw (ti:=ci Tryz.prog) Tryz.func194 rfl rfl (by simp[aK,aF,aM]) ?_;generalize ptV l=o at h1 ⊢;cases o with
 | nil=>
  repeat' ((conv=>whnf);first|exact kQ|(refine bk ?_ ?_<;>intro _<;>try exact exo)|refine stq ?_|refine Fw.range aB T0 rfl h1 rfl si ?_|refine Fw.split ?_|refine Fw.one aB T0 ?_|fail)
  (conv=>whnf)
  exact⟨rfl,_,rfl,⟨.nil⟩⟩
 | cons x xs=>
  repeat' ((conv=>whnf);first|exact kQ|(refine bk ?_ ?_<;>intro _<;>try exact exo)|refine stq ?_|refine Fw.range aB T0 rfl h1 rfl si ?_|refine Fw.split ?_|refine Fw.one aB T0 ?_|fail)
  (conv=>whnf)
  exact⟨rfl,_,rfl,aD.own (id:=5) (es:=2) (c:=bm) (l:=x::xs) (λ_=>rfl) (λ_=>rfl)⟩
theorem Dk {l:List Int}(hx:l.length<=1001):Pu Tryz.prog 160 [.fn (.func 195) [] [.iptr [aC l]]] (ax (ptV l)):=by
 refine pv Tryz.func160 ?_;repeat' ((conv=>whnf);first|exact kQ|(refine bk ?_ ?_<;>intro _<;>try exact exo)|refine stq ?_|refine cp (y6 sd) ?_|fail)
 (conv=>whnf)
 exact aD.same (ak _) rfl
theorem Bz {p:Prp}{t:Tbl}{text l:List Int}(ha:Pu Tryz.prog 53 [bY p,gQ t,aC text] (aC l)) (hl:l.length<=1001):Pu Tryz.prog 118 [bY p,gQ t,aC text] (ax (ptV l)):=by
 refine pv Tryz.func118 ?_;repeat' ((conv=>whnf);first|exact kQ|(refine bk ?_ ?_<;>intro _<;>try exact exo)|refine stq ?_|refine cp ha ?_|refine Cll.pk EQ ?_|refine Cll.give (.cons (.fn .nil (.cons (.frzp rfl rfl (.cons (.same (aM l)) .nil)) .nil)) .nil) (Dk hl) ?_|fail)
 (conv=>whnf)
 exact aD.same (ak _) rfl
theorem JA {p:Prp}{t:Tbl}{text:List Int}(hp:p.ok) (ht:t.ok) (h1:p.names.length<=1000) (h2:p.spans.length<=1000) (hx:text.length<=1000):Pu Tryz.prog 118 [bY p,gQ t,aC text] (ax (qY p t text)):=by
 rw[<-Hj];exact Bz (qR hp ht h1 h2 hx) (Ga hx)
end
section
open Classical
def Chn:Int->List Rng->Int->Prop
 | s,[],e=>s=e
 | s,r::P,e=>r.lo=s/\s<r.hi/\Chn r.hi P e
theorem pz [GT]:∀ {b:List Int}{s n:Int},(s::(b++[n])).Pairwise (·<=·)->Chn s (btw s (b++[n])) n
 | [],s,n,h=>by
  have h1:s<=n:=(List.pairwise_cons.1 h).1 n si;show Chn s (btw s [n]) n;by_cases h2:s<n
  .rw[cJ h2];exact⟨rfl,h2,rfl⟩
  .rw[dW h2];exact show s=n by omega
 | e::b,s,n,h=>by
  have hp:=List.pairwise_cons.1 h;have h1:s<=e:=hp.1 e si;rw[List.cons_append];by_cases h2:s<e
  .rw[cJ h2];exact⟨rfl,h2,pz hp.2⟩
  .rw[dW h2];refine pz (List.pairwise_cons.2 ⟨λa ha=>hp.1 a (by simp at ha ⊢;exact .inr ha),(List.pairwise_cons.1 hp.2).2⟩)
theorem BX {A:List Int}{n:Nat}(hA:A.length=n+1):(0::(ends A A.length++[(n:Int)])).Pairwise (·<=·):=by
 have hm:∀ a∈ends A A.length,0<=a/\a<=(n:Int):=λa ha=>by
  simp only[ends,List.mem_map,List.mem_filter,List.mem_range] at ha;obtain⟨i,⟨h1,_⟩,rfl⟩:=ha;omega
 rw[List.pairwise_cons,List.pairwise_append];refine⟨λa ha=>?_,?_,si,λa ha b hb=>?_⟩
 .rcases List.mem_append.1 ha with h|h
  .exact(hm a h).1
  .simp at h;omega
 .unfold ends;rw[List.pairwise_map];exact(List.Pairwise.filter _ List.pairwise_lt_range).imp λh=>by omega
 .simp at hb;have:=(hm a ha).2;omega
theorem oQ:∀ {P:List Rng}{s e:Int},Chn s P e->s<=e
 | [],_,_,h=>by rw[show _=_ from h];exact Int.le_refl _
 | r::P,s,e,h=>by have:=oQ h.2.2;have:=h.2.1;omega
def mV (s:Int):List Rng->Nat->Int
 | _,0=>s
 | [],_+1=>s
 | r::P,k+1=>mV r.hi P k
theorem pm:∀ {P:List Rng}{s e:Int}(k:Nat),Chn s P e->s<=mV s P k/\mV s P k<=e
 | [],s,e,k,h=>by cases k<;>exact⟨Int.le_refl _,by simp only[mV];exact Int.le_of_eq h⟩
 | r::P,s,e,0,h=>⟨Int.le_refl _,oQ h⟩
 | r::P,s,e,k+1,h=>by have:=pm k h.2.2;have:=h.2.1;simp only[mV];omega
theorem re:∀ {P:List Rng}{s:Int}{k:Nat}(h:k<P.length),mV s P (k+1)=P[k].hi
 | r::P,s,0,_=>by cases P<;>rfl
 | r::P,s,k+1,h=>by simp only[mV,List.getElem_cons_succ];exact re (by simpa using h)
theorem yJ:∀ {P:List Rng}{s e:Int}{k:Nat},Chn s P e->P.length<=k->mV s P k=e
 | [],s,e,k,h,_=>by cases k<;>exact h
 | r::P,s,e,0,_,hk=>by simp at hk
 | r::P,s,e,k+1,h,hk=>by simp only[mV];exact yJ h.2.2 (by simpa using hk)
theorem vh:∀ {P:List Rng}{s e:Int}{k:Nat}(h:k<P.length),Chn s P e->P[k].lo=mV s P k/\mV s P k<P[k].hi/\P[k].hi<=e
 | r::P,s,e,0,_,h=>⟨h.1,h.2.1,oQ h.2.2⟩
 | r::P,s,e,k+1,hk,h=>by
  have:=vh (P:=P) (k:=k) (by simpa using hk) h.2.2
  simpa only[mV,List.getElem_cons_succ] using this
theorem DH {P:List Rng}{s:Int}:mV s P 0=s:=by cases P<;>rfl
end
section
variable [GT]
end
end Go.Proofs.YtlimkdlhldlolaaGreatDoor
