/-
  Contracts over data: compose.Second, the elements that are put to another.
-/
import Derived.Test.YtihggclfifimoaaGreatDoorXV
import Derived.Test.YtihggclfifimoaaGreatDoorUL
set_option linter.unusedSectionVars false
namespace Go.Proofs.YtihggclfifimoaaGreatDoor
open Go Go.Am Classical
set_option maxHeartbeats 4000000
set_option maxRecDepth 100000
section
set_option linter.unusedVariables false
theorem xYQ.rdX {p:Prop}(h:p:=by first|exact Rd.frzL aa aU rfl rfl rfl rfl rfl|exact Rd.sl' rfl sim sim|fail):p:=h
theorem xYQ.rbX {p:Prop}(h:p:=by first|exact Rb.iter (Res.same (nbPE _))|exact Rb.cells (Rds.eqs rfl rfl) rfl|exact Rb.iter (Res.eqs (wH l j) (nbPE _))|exact Rb.cells (Rds.eqs (ae (c:=bq) (sz:=2) aa o (qh (l[j]'(by first|(simpa using hj;done)|fail)))) (aG aU _)) rfl|fail):p:=h
open xYQ
theorem lL (l:List Rng):i7 (mkR l)∧∀ c,0<=c->c<=1114111->(InR (mkR l) c↔InR l c):=n8 (j0 _).1 (j0 _).2
theorem Ds {l m:List Rng}(h:∀ c,InR l c↔InR m c):mkR l=mkR m:=
 (i7.iff (lL m).1 λc h1 h2=>((lL m).2 c h1 h2).trans ((h c).symm.trans ((lL l).2 c h1 h2).symm)).2 (lL l).1
theorem GJ {l:List Rng}{c:Int}:bM (mkR l) c=bM l c:=by
 rw[Bool.eq_iff_iff,cG,cG];exact⟨λ⟨h,h'⟩=>⟨h,((lL l).2 c h.1 h.2).1 h'⟩,λ⟨h,h'⟩=>⟨h,((lL l).2 c h.1 h.2).2 h'⟩⟩
abbrev qh (p:(Int×Int)×Int):Rng:=⟨p.1.2,p.1.2⟩
noncomputable def mh (n:Nm):List Rng:=d8++(bS n n.dc).map qh
theorem wu {l m:List Rng}(h:l.Perm m){c:Int}:InR l c↔InR m c:=⟨λ⟨r,hr,x⟩=>⟨r,h.mem_iff.1 hr,x⟩,λ⟨r,hr,x⟩=>⟨r,h.mem_iff.2 hr,x⟩⟩
theorem AE {k:Int×Int}{x:Int}:∀ {M:List ((Int×Int)×Int)}{i:Nat},(k,x)∈M->lkP k.1 k.2 M i≠none
 | [],_,h=>by cases h
 | (k',y)::M,i,h=>by
  simp only[lkP];split
  ·simp
  ·rename_i hne;rcases List.mem_cons.1 h with h|h
   ·injection h with h _;exact absurd h.symm hne
   ·exact AE h
theorem AD {a b:Int}:∀ {M:List ((Int×Int)×Int)}{i:Nat},lkP a b M i≠none->∃ x,((a,b),x)∈M
 | [],_,h=>by simp[lkP] at h
 | (k',y)::M,i,h=>by
  simp only[lkP] at h;split at h
  ·rename_i e;exact⟨y,by simp[e]⟩
  ·obtain⟨x,hx⟩:=AD h;exact⟨x,List.mem_cons_of_mem _ hx⟩
def FA (L:List Mpg) (p:(Int×Int)×Int):Prop:=∃ m∈L,m.to.length=2∧p.1=(m.to.getD 0 0,m.to.getD 1 0)
theorem sM {n:Nm}{L:List Mpg}:∀ (l:List Mpg) (M:List ((Int×Int)×Int)),(∀ m∈l,m∈L)->(∀ p∈M,FA L p)->∀ p∈l.foldl (fE n) M,FA L p
 | [],M,_,h=>h
 | m::l,M,hl,h=>by
  refine sM l _ (λx hx=>hl x (List.mem_cons_of_mem _ hx)) λp hp=>?_
  unfold fE at hp;split at hp
  ·rename_i hq;split at hp
   ·exact h p hp
   ·rcases List.mem_append.1 hp with hp|hp
    ·exact h p hp
    ·rw[List.mem_singleton.1 hp];exact⟨m,hl m si,hq.2.1,rfl⟩
  ·exact h p hp
theorem DN {n:Nm}{l:List Mpg}{p:(Int×Int)×Int}(hp:p∈bS n l):FA l p:=sM l [] (λ_ h=>h) (λ_ h=>by cases h) p hp
theorem secOk {n:Nm}(hV:NmV n):kz n (mkR (mh n)):=by
 intro x;rw[GJ,cG];constructor
 ·rintro⟨h,r,hr,h1,h2⟩;rcases List.mem_append.1 hr with hr|hr
  ·have hx:(4449<=x∧x<=4469)∨(4520<=x∧x<=4546):=by
    rcases List.mem_cons.1 hr with rfl|hr
    ·exact .inl ⟨h1,h2⟩
    ·rw[List.mem_singleton.1 hr] at h1 h2;exact .inr ⟨h1,h2⟩
   rcases hx with hx|hx
   ·have:hk x=2:=by rcases aj x with h|h|h|h|h<;>omega
    refine⟨4352,?_⟩;rw[wo];unfold hc;rw[if_pos ⟨by decide,this⟩];simp
   ·have:hk x=3:=by rcases aj x with h|h|h|h|h<;>omega
    refine⟨44032,?_⟩;rw[wo];unfold hc;rw[if_neg (λh=>by have:=h.2;omega),if_pos ⟨by decide,this⟩];simp
  ·obtain⟨p,hp,rfl⟩:=List.mem_map.1 hr;have e:x=p.1.2:=by simp only at h1 h2;omega
   subst e;refine⟨p.1.1,?_⟩;rw[wo];cases hc p.1.1 p.1.2 with
   | some w=>simp
   | none=>
    have:=AE (k:=p.1) (x:=p.2) (i:=0) hp
    simpa using this
 ·rintro⟨a,ha⟩;rw[wo] at ha;cases hh:hc a x with
  | some w=>
   have hx:hk x=2∨hk x=3:=by
    unfold hc at hh;split at hh
    ·rename_i h;exact .inl h.2
    ·split at hh
     ·rename_i h;exact .inr h.2
     ·cases hh
   have hx:(4449<=x∧x<=4469)∨(4520<=x∧x<=4546):=by rcases aj x with h|h|h|h|h<;>omega
   rcases hx with hx|hx
   ·exact⟨by omega,⟨4449,4469⟩,by simp[mh,d8],hx.1,hx.2⟩
   ·exact⟨by omega,⟨4520,4546⟩,by simp[mh,d8],hx.1,hx.2⟩
  | none=>
   rw[hh] at ha;obtain⟨v,hv⟩:=AD (a:=a) (b:=x) (M:=bS n n.dc) (i:=0) (λe=>by rw[e] at ha;simp at ha);obtain⟨m,hm,hl,hk⟩:=DN hv;have hc0:=hV.dc.1
   have hx:cpQ x:=by
    obtain⟨i,hi,rfl⟩:=List.getElem_of_mem hm;unfold dI at hc0;split at hc0
    ·rename_i hq;have:=(hq i hi).2 1 om
     injection hk with _ hk
     rw[hk,gDe om];exact this
    ·cases hc0
   exact⟨hx,qh ((a,x),v),List.mem_append_right _ (List.mem_map_of_mem hv),Int.le_refl _,Int.le_refl _⟩
theorem sU {l:List ((Int×Int)×Int)}{j:Nat}(hj:j<(db l).length):(db l)[j]=(yp (l[j]'(by simpa using hj)).1.1 (l[j]'(by simpa using hj)).1.2,i64 (l[j]'(by simpa using hj)).2):=by simp[db]
theorem wH (l:List ((Int×Int)×Int)) (j:Nat):(db l).eraseIdx j=db (l.eraseIdx j):=by
 simp only[db]
 induction l generalizing j with
 | nil=>rfl
 | cons x l ih=>cases j with
  | zero=>rfl
  | succ j=>simp only[List.map_cons,List.eraseIdx_cons_succ,ih]
theorem ly {α:Type}:∀ {l:List α}{j:Nat}(hj:j<l.length),(l[j]::l.eraseIdx j).Perm l
 | x::l,0,_=>List.Perm.refl _
 | x::l,j+1,hj=>by
  simp only[List.getElem_cons_succ,List.eraseIdx_cons_succ];exact(List.Perm.swap _ _ _).trans ((ly (by simpa using hj)).cons x)
theorem qZ {n:Nm}:∀ (l:List Mpg) (M:List ((Int×Int)×Int)),(l.foldl (fE n) M).length<=M.length+l.length
 | [],M=>by simp
 | m::l,M=>by
  rw[List.foldl_cons,kO];refine Nat.le_trans (qZ l _) ?_
  have:(fE n M m).length<=M.length+1:=by
   unfold fE;split
   ·split
    ·omega
    ·simp
   ·omega
  omega
abbrev scS (l:List ((Int×Int)×Int)) (o:List Rng) (b:Bool):St:=⟨tmp 26 [(2,.ptr 0 0),(3,.sl 1 0 o.length o.length 2 b),(11,.ptr 2 0)],⟨3,[(0,.cells [aO] true),(1,.cells (o.flatMap bq) b),(2,.iter (db l) none)]⟩⟩
theorem nbPE (l:List ((Int×Int)×Int)):∀ p∈db l,aL p.1=true∧aL p.2=true:=λp hp=>by
 obtain⟨q,_,rfl⟩:=List.mem_map.1 hp;exact⟨rfl,rfl⟩
theorem C8 {n:Nm}(hN:eI n n):Pu Tryz.prog 150 [nmD n] (fJ (mkR (mh n))):=by
 have hus:=tB hN;have hcs:=nV hN.ok hN.g;have hdl:=hN.ok.dc;have hpl:(bS n n.dc).length<=n.dc.length:=by have:=qZ (n:=n) n.dc [];simpa [bS] using this
 refine Pu.of_v aA T0 Tryz.func150 rfl rfl (aD (aQ n) rfl) ?_;repeat' ((conv=>whnf);first|exact kQ|(refine bk ?_ ?_<;>intro _<;>try(exfalso;omega))|refine stq ?_|refine cp hus ?_|refine Cll.pk hcs ?_|fail)
 all_goals(conv=>whnf)
 refine aH.by aA T0 (λq:List ((Int×Int)×Int)×List Rng×Bool=>scS q.1 q.2.1 q.2.2) (λq=>∃ d,(d++q.1).Perm (bS n n.dc)∧q.2.1=d8++d.map qh) (λq=>q.1.length) (bS n n.dc,d8,true) ⟨[],List.Perm.refl _,rfl⟩ ?_ ?_
 ·show Lf _ _ ⟨tmp 26 [(2,.ptr 0 0),(3,.sl 1 0 2 2 2 true),(11,.ptr 2 0)],⟨3,[(0,.cells [aO] true),(1,.cells (d8.flatMap bq) true),(2,.iter (db (bS n n.dc)) none)]⟩⟩;exact lq [(0,1),(1,4),(2,10)] []
 intro⟨l,o,b⟩ ⟨d,h2,h3⟩;dsimp only at h2 h3 ⊢;have hdl2:=h2.length_eq;rw[kG] at hdl2;have hol:o.length=2+d.length:=by rw[h3];simp;omega
 have hM:=vB (l:=o) om;cases b with
 | true=>
  repeat' ((conv=>whnf);first|refine cm.weak (x:=Code.seq (Code.region 6 _ false) _) aA T0 (s0:=⟨tmp 26 [(2,.ptr 0 0),(3,bD o)],⟨1,[(0,.cells [aO] true)]⟩⟩) ?_ ?_|exact kQ|(refine bk ?_ ?_<;>intro _<;>try(exfalso;omega))|refine stq ?_|refine cp hM ?_|(refine zS.mk (λhl0=>?_) (λj hj=>?_);rotate_left;rw[sU hj])|refine Chk.growX 16 2 rfl rfl om om (by rw[aW aa];omega) ?_|fail)
  all_goals(conv=>whnf)
  ·refine⟨(l.eraseIdx j,o++[qh (l[j]'(by simpa using hj))],false),⟨d++[l[j]'(by simpa using hj)],?_,?_⟩,?_,?_⟩
   ·rw[List.append_assoc];exact(List.Perm.append_left d (ly (by simpa using hj))).trans h2
   ·rw[h3,List.map_append,List.append_assoc];rfl
   ·show(l.eraseIdx j).length<l.length;have hj':j<l.length:=by simpa using hj
    rw[List.length_eraseIdx_of_lt hj'];omega
   ·show Lf _ _ (scS (l.eraseIdx j) (o++[qh (l[j]'(by simpa using hj))]) false);exact lq [(0,0),(1,16),(2,2)] []
  ·exact lq [(0,0)] [1]
  ·have hl:l=[]:=by simpa using hl0
   subst hl
   rw[show mkR (mh n)=mkR o from Ds λc=>by
    rw[h3];unfold mh;rw[List.append_nil] at h2
    exact wu ((List.Perm.append_left d8 (h2.map qh)).symm)]
   exact⟨Rd.eqd rfl (by simp[aL,aK,aV])⟩
 | false=>
  repeat' ((conv=>whnf);first|refine cm.weak (x:=Code.seq (Code.region 6 _ false) _) aA T0 (s0:=⟨tmp 26 [(2,.ptr 0 0),(3,bD o)],⟨1,[(0,.cells [aO] true)]⟩⟩) ?_ ?_|exact kQ|(refine bk ?_ ?_<;>intro _<;>try(exfalso;omega))|refine stq ?_|refine cp hM ?_|(refine zS.mk (λhl0=>?_) (λj hj=>?_);rotate_left;rw[sU hj])|refine Chk.growX 16 2 rfl rfl om om (by rw[aW aa];omega) ?_|fail)
  all_goals(conv=>whnf)
  ·refine⟨(l.eraseIdx j,o++[qh (l[j]'(by simpa using hj))],false),⟨d++[l[j]'(by simpa using hj)],?_,?_⟩,?_,?_⟩
   ·rw[List.append_assoc];exact(List.Perm.append_left d (ly (by simpa using hj))).trans h2
   ·rw[h3,List.map_append,List.append_assoc];rfl
   ·show(l.eraseIdx j).length<l.length;have hj':j<l.length:=by simpa using hj
    rw[List.length_eraseIdx_of_lt hj'];omega
   ·show Lf _ _ (scS (l.eraseIdx j) (o++[qh (l[j]'(by simpa using hj))]) false);exact lq [(0,0),(1,16),(2,2)] []
  ·exact lq [(0,0)] [1]
  ·have hl:l=[]:=by simpa using hl0
   subst hl
   rw[show mkR (mh n)=mkR o from Ds λc=>by
    rw[h3];unfold mh;rw[List.append_nil] at h2
    exact wu ((List.Perm.append_left d8 (h2.map qh)).symm)]
   exact⟨Rd.eqd rfl (by simp[aL,aK,aV])⟩
end
section
set_option linter.unusedVariables false
def SmN (n:Nm):Prop:=n.cl.length<=16∧SmM n.dc∧n.xc.length<=12
structure Nm.len (n:Nm):Prop where
 cl:n.cl.length<=9223372036854775807
 dc:n.dc.length<=9223372036854775807
 xc:n.xc.length<=9223372036854775807
 to:∀ i (h:i<n.dc.length),n.dc[i].to.length<=9223372036854775807∧n.dc[i].tag.length<=9223372036854775807
theorem csml_c {l:List Spn}(hl:l.length<=9223372036854775807):Pu Tryz.prog 9 [bC l] (boo (decide (l.length<=16))):=by
 refine pv Tryz.func9 ?_;repeat' ((conv=>whnf);first|exact kQ|(refine bk ?_ ?_<;>intro _<;>try(exfalso;omega))|refine stq ?_)
 all_goals(conv=>whnf)
 all_goals first
  | exact aE.yes om
  | exact aE.no om
theorem few_c {l:List Int}{m:Int}(hl:l.length<=9223372036854775807):Pu Tryz.prog 5 [aF l,i64 m] (boo (decide ((l.length:Int)<=m))):=by
 refine pv Tryz.func5 ?_;repeat' ((conv=>whnf);first|exact kQ|(refine bk ?_ ?_<;>intro _<;>try(exfalso;omega))|refine stq ?_)
 all_goals(conv=>whnf)
 all_goals first
  | exact aE.yes om
  | exact aE.no om
theorem De {n:Nm}(hn:n.len):Pu Tryz.prog 4 [nmD n] (boo (decide (SmN n))):=by
 have h1:=csml_c hn.cl;have h2:=Dm hn.dc hn.to;have h3:=C4 (l:=n.xc);refine Pu.of_v aA T0 Tryz.func4 rfl rfl (aD (aQ n) rfl) ?_;by_cases k1:n.cl.length<=16
 ·rw[decide_eq_true k1] at h1;by_cases k2:SmM n.dc
  ·rw[decide_eq_true k2] at h2;by_cases k3:n.xc.length<=12
   ·rw[decide_eq_true k3] at h3;repeat' ((conv=>whnf);first|exact kQ|(refine bk ?_ ?_<;>intro _<;>try(exfalso;omega))|refine stq ?_|refine cp h1 ?_|refine cp h2 ?_|refine cp h3 ?_|fail)
    all_goals(conv=>whnf)
    exact aE.yes ⟨k1,k2,k3⟩
   ·rw[decide_eq_false k3] at h3;repeat' ((conv=>whnf);first|exact kQ|(refine bk ?_ ?_<;>intro _<;>try(exfalso;omega))|refine stq ?_|refine cp h1 ?_|refine cp h2 ?_|refine cp h3 ?_|fail)
    all_goals(conv=>whnf)
    exact aE.no λh=>k3 h.2.2
  ·rw[decide_eq_false k2] at h2;repeat' ((conv=>whnf);first|exact kQ|(refine bk ?_ ?_<;>intro _<;>try(exfalso;omega))|refine stq ?_|refine cp h1 ?_|refine cp h2 ?_|fail)
   all_goals(conv=>whnf)
   exact aE.no λh=>k2 h.2.1
 ·rw[decide_eq_false k1] at h1;repeat' ((conv=>whnf);first|exact kQ|(refine bk ?_ ?_<;>intro _<;>try(exfalso;omega))|refine stq ?_|refine cp h1 ?_|fail)
  all_goals(conv=>whnf)
  exact aE.no λh=>k1 h.1
noncomputable def T58:List (FuncId×List D×Value):=[(12,[zN,zC0,op0,aO,aO],.int .i64 3),(7,[zN,aO],.int .i64 12),(7,[zN,aF [1,2]],.int .i64 16),
 (13,[zN,aO,aO,aO],.int .i64 5),(14,[zD 49,zD 52,aO],.int .i64 0),(15,[zD 61,aF [8,4],aO],.int .i64 0)]
theorem T58_ok:∀ e∈T58,Pu Tryz.prog e.1 e.2.1 (.v e.2.2):=by
 unfold T58;simp only[List.forall_mem_cons];exact⟨coll0,nrm0,nrm1,str0,bnd0,tab0,by simp⟩
theorem CT:Pu Tryz.prog 6 [] (boo true):=Pu.of_b (t:=T58) (u:=[]) (sp:=λ_ _=>none) aA T0 cq T58_ok si (f:=20) (by kernel_rfl) (by kernel_rfl)
theorem SmN.ok {n:Nm}(h:SmN n):n.ok:=⟨by have:=h.1;omega,by have:=h.2.1.2;omega,h.2.2,λi hi=>by have:=h.2.1.1 i hi (by have:=h.2.1.2;omega);omega,λi hi=>by have:=h.2.1.1 i hi (by have:=h.2.1.2;omega);omega⟩
theorem z7:∀ (s o:List Rng),(mrg o s).length<=o.length+s.length
 | [],o=>by simp[mrg]
 | r::s,o=>by
  simp only[mrg];repeat' split
  all_goals(refine Nat.le_trans (z7 s _) ?_;simp;try omega)
theorem Fu (l:List Rng):(mkR l).length<=l.length:=by
 have h1:=z7 (gn ltR zR (cT l)) [];have h2:=srtG_len ltR zR (cT l);have h3:=qd l;have e:mkR l=mrg [] (gn ltR zR (cT l)):=rfl;rw[e];simp only[List.length_nil] at h1;omega
theorem both_c {n:Nm}{t:List Int}(h:SmN n) (ht:t.length<=16):∃ k:Int,Pu Tryz.prog 7 [nmD n,aF t] (i64 k)∧Pu Tryz.prog 8 [nmD n,aF t] (i64 k):=by
 have hn:=h.ok;have hN:=qn hn
 have hdc:(okN n).dc.length<=20:=by
  unfold okN;split
  ·exact h.2.1.2
  ·simp
 have hS:=C8 (qm hN);have hO:=secOk hN.g.v
 have hl:(mkR (mh (okN n))).length<=1000:=by
  have h1:=Fu (mh (okN n));have h2:(mh (okN n)).length=2+(bS (okN n) (okN n).dc).length:=by unfold mh;simp;omega
  have h3:(bS (okN n) (okN n).dc).length<=(okN n).dc.length:=by have:=qZ (n:=okN n) (okN n).dc [];simpa [bS] using this
  omega
 refine⟨_,norm_c hN hS hO hl ht,?_⟩;have h1:=Fe hn hdc (by omega:t.length<=100);have h2:=xW (n:=n) (n':=okN n) (s:=mkR (mh (okN n))) (t:=t) 4 om;rw[tE (λx=>yS hO (rsecOk hN.g) x) 4] at h2
 rwa [show jm (okN n) (gq (okN n)) t 4=(gF n (okN n) (mkR (mh (okN n))) t 4).length from by omega] at h1
theorem Fr {n:Nm}{t:List Int}(hn:n.len) (ht:t.length<=9223372036854775807):Pu Tryz.prog 3 [nmD n,aF t] (boo true):=by
 have hal:=CT;have h1:=De hn;have h2:=few_c (m:=16) ht;refine Pu.of_v aA T0 Tryz.func3 rfl rfl (aD (aQ n) (aD (aC _) rfl)) ?_;by_cases k1:SmN n
 ·rw[decide_eq_true k1] at h1;by_cases k2:(t.length:Int)<=16
  ·rw[decide_eq_true k2] at h2;obtain⟨k,h3,h4⟩:=both_c k1 (by omega:t.length<=16);repeat' ((conv=>whnf);first|exact kQ|(refine bk ?_ ?_<;>intro _<;>try(exfalso;omega))|refine stq ?_|refine cp h1 ?_|refine cp h2 ?_|refine cp h3 ?_|refine cp h4 ?_|refine cp hal ?_|fail)
   all_goals(conv=>whnf)
   all_goals first
    | exact aE.v rfl
    | contradiction
  ·rw[decide_eq_false k2] at h2;repeat' ((conv=>whnf);first|exact kQ|(refine bk ?_ ?_<;>intro _<;>try(exfalso;omega))|refine stq ?_|refine cp h1 ?_|refine cp h2 ?_|refine cp hal ?_|fail)
   all_goals(conv=>whnf)
   all_goals exact aE.v rfl
 ·rw[decide_eq_false k1] at h1;repeat' ((conv=>whnf);first|exact kQ|(refine bk ?_ ?_<;>intro _<;>try(exfalso;omega))|refine stq ?_|refine cp h1 ?_|refine cp hal ?_|fail)
  all_goals(conv=>whnf)
  all_goals exact aE.v rfl
end
end Go.Proofs.YtihggclfifimoaaGreatDoor
