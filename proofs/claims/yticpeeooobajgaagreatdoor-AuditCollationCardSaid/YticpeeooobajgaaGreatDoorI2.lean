/-
  Contracts over data: decompose.Text.
-/
import Derived.Test.YticpeeooobajgaaGreatDoorI0
import Derived.Test.YticpeeooobajgaaGreatDoorND
set_option linter.unusedSectionVars false
namespace Go.Proofs.YticpeeooobajgaaGreatDoor
section
open Go Go.Am Classical
set_option maxRecDepth 100000
set_option linter.unusedVariables false
theorem xI2.rdX {p:Prop}(h:p:=by first|exact Rd.fn .nil (.cons (.ptr rfl) (.cons (.frzp rfl rfl (Rds.same (b8 n'))) (.cons (.frzp rfl rfl (Rds.same rfl)) (.cons (.ptr rfl) .nil))))|exact Rd.frzp rfl rfl (Rds.same (b8 n'))|exact rdEx|exact Rd.same (nbN n')|exact Rd.sl' rfl sim sim|fail):p:=h
theorem xI2.rbX {p:Prop}(h:p:=by first|exact Rb.map Res.nil|exact Rb.map (Res.same (AU _))|exact Rb.cells (Rds.eqs (xQ _) (aC (by intro _;rfl) _)) rfl|exact Rb.cells (Rds.eqs (appI (x::xs) (y::ys)) (aC (by intro _;rfl) _)) rfl|exact Rb.cells (Rds.eqs (BX (x::xs)) (aC (by intro _;rfl) _)) rfl|fail):p:=h
open xI2
abbrev nm0:Nm:=⟨[],[],[]⟩
theorem nmG0:NmG nm0:=AO ⟨⟨λi h=>by simp at h,λi h=>by simp at h⟩,⟨rfl,λi h=>by simp at h⟩,trivial,λi h=>by simp at h,λi h=>by simp at h,λi h=>by simp at h⟩ rfl rfl rfl
theorem Nm.ok.zero:nm0.ok:=⟨by simp,by simp,by simp,λi h=>by simp at h,λi h=>by simp at h⟩
structure i5 (n n':Nm):Prop where
 g:NmG n'
 ok:n'.ok
 us:Pu Tryz.prog 151 [nmD n] (nmD n')
 ck:∃ e:Int,Pu Tryz.prog 91 [nmD n] (i64 e)∧(e=0->n'=n)∧(e≠0->n'=nm0)
theorem Db {n:Nm}(hn:n.ok):∃ n',i5 n n':=by
 obtain⟨e,h1,h2⟩:=vw hn;by_cases he:e=0
 ·refine⟨n,h2 he,hn,?_,e,h1,λ_=>rfl,λh=>absurd he h⟩;refine pv Tryz.func151 ?_;repeat' ((conv=>whnf);first|exact kQ|(refine bk ?_ ?_<;>intro _<;>try(exfalso;omega))|refine stq ?_|refine cp h1 ?_|fail)
  all_goals(conv=>whnf)
  exact aI.same (eP n) rfl
 ·refine⟨nm0,nmG0,Nm.ok.zero,?_,e,h1,λh=>absurd h he,λ_=>rfl⟩;refine pv Tryz.func151 ?_;repeat' ((conv=>whnf);first|exact kQ|(refine bk ?_ ?_<;>intro _<;>try(exfalso;omega))|refine stq ?_|refine cp h1 ?_|fail)
  all_goals(conv=>whnf)
  exact⟨.agg (.cons .nil (.cons .nil (.cons .nil .nil)))⟩
noncomputable abbrev bY (n:Nm) (k:Bool) (t:List Int):List Int:=dcm (aK n.cl) (j5 (once n k)) t
theorem qv {n:Nm}(h:NmV n) (k:Bool):ui (once n k):=by cases k;exact h.endsD;exact h.ends
theorem lenB {n:Nm}(h:NmG n) (k:Bool) (c:Int):(j5 (once n k) c).length<=64:=by cases k;exact h.lenD c;exact h.v.len c
theorem toB {n:Nm}(h:n.ok) (k:Bool){c:Int}{to:List Int}(ht:once n k c=some to):to.length<=1000:=by
 cases k
 ·exact oc h.to (eG ht)
 ·exact oc h.to ht
theorem nn {ex:Int->List Int}(h:∀ c,(ex c).length<=64):∀ l:List Int,(exs ex l).length<=64*l.length
 | []=>by simp[exs]
 | c::l=>by
  have h1:=nn h l;have h2:=h c;show((c::l).flatMap ex).length<=_;rw[List.flatMap_cons,kG,kO];have h3:(l.flatMap ex).length<=64*l.length:=h1;omega
theorem sr {n:Nm}(h:NmG n) (k:Bool) (t:List Int):(bY n k t).length<=64*t.length:=by
 show(can _ (exs _ t)).length<=_;rw[(cX _).length_eq];exact nn (lenB h k) t
set_option maxHeartbeats 8000000 in
theorem ux {n n':Nm}{k:Bool}{t:List Int}(hN:i5 n n') (ht:t.length<=1500):Pu Tryz.prog 71 [nmD n,aE t,boo k] (aE (bY n' k t)):=by
 have hu:=hN.us;have hg:=hN.g;obtain⟨rk,hrk⟩:=qv hg.v k;have hx:=Aw (qv hg.v k);have hlen:=lenB hg k;have hcl:gZ n'.cl=n'.cl:=if_pos hg.cls;have hS:=λ(l:List Int) (hl:l.length<=100000)=>yI (l:=n'.cl) (t:=l) hN.ok.cl hl
 rw[hcl] at hS;have hE:=Di (k:=k) hN.ok.dc hg.rise hrk hx hlen (λc to h=>toB hN.ok k h);show Pu _ _ _ (aE (can (aK n'.cl) (exs (j5 (once n' k)) t)));generalize j5 (once n' k)=ex at *;refine pv Tryz.func71 ?_;repeat' ((conv=>whnf);first|exact kQ|(refine bk ?_ ?_<;>intro _<;>try(exfalso;omega))|refine stq ?_|refine cp hu ?_|(apply Cll.inl aA T0 Tryz.func152 rfl rfl ?_;rotate_left)|exact⟨Or.inr rfl,rfl,rfl⟩|fail)
 refine aH.by3 aA T0 (λ(j:Nat) (acc:List Int) (gs:List (Int×List Int))=>⟨tmp 32 [(3,.iptr (nmC n')),(7,jY n' k),(8,bG 3 1 acc),(16,aE t),(17,i64 t.length),(18,i64 (j:Int))],⟨4,bJ 3 fQ acc++exH n' k gs⟩⟩)
  (λj acc gs=>(j<=t.length∧acc=exs ex (t.take j))∧eU ex gs) (λj _ _=>t.length-j) 0 [] [] ⟨⟨by omega,rfl⟩,λp h=>by simp at h⟩ ?_ ?_
 ·exact lq [(0,11),(1,12),(2,14)] [0,8,9]
 intro j acc gs ⟨⟨g1,g2⟩,g3⟩
 have hal:acc.length<=64*t.length:=by
  rw[g2];have h1:=nn hlen (t.take j);rw[List.length_take] at h1;omega
 by_cases hj:j<t.length
 ·have hb:=hE (rk t[j]+1) t[j] gs om g3;have g5:=eU.next (on:=once n' k) (rk t[j]+1) t[j] gs g3;have g7:acc++ex t[j]=exs ex (t.take (j+1)):=by rw[pM hj,<-g2]
  have hvl:=hlen t[j];generalize fsF (once n' k) ex (rk t[j]+1) t[j] gs=gs' at *;generalize ex t[j]=v at *;have hv0:([]:List Int).length=0:=rfl;cases acc with
  | nil=>
   cases v with
   | nil=>
    repeat' ((conv=>whnf);first|exact kQ|(refine bk ?_ ?_<;>intro _<;>try(exfalso;omega))|refine stq ?_|refine Cll.emb hb [(0,0),(1,1),(2,2)] [] (aE ([])) [(0,.map (fsM gs')),(1,.cells [.map 0] true),(2,.cells [jY n' k] true)] [] rfl aq bxA rdA bxA reA ?_|fail)
    all_goals(conv=>whnf)
    refine⟨j+1,[],gs',⟨⟨by omega,g7⟩,g5⟩,by omega,?_⟩;exact lq [(0,0),(1,1),(2,2)] []
   | cons y ys=>
    have hv1:(y::ys).length=ys.length+1:=rfl;repeat' ((conv=>whnf);first|exact kQ|(refine bk ?_ ?_<;>intro _<;>try(exfalso;omega))|refine stq ?_|refine Cll.emb hb [(0,0),(1,1),(2,2)] [] (aE (y::ys)) [(0,.map (fsM gs')),(1,.cells [.map 0] true),(2,.cells [jY n' k] true)] [] rfl aq bxA rdA bxA reA ?_|refine ad.lst ?_|refine Chk.growX 8 1 rfl rfl om om si ?_|fail)
    all_goals(conv=>whnf)
    refine⟨j+1,y::ys,gs',⟨⟨by omega,g7⟩,g5⟩,by omega,?_⟩;exact lq [(0,0),(1,1),(2,2),(3,12)] []
  | cons x xs=>
   have hx1:(x::xs).length=xs.length+1:=rfl;cases v with
   | nil=>
    repeat' ((conv=>whnf);first|exact kQ|(refine bk ?_ ?_<;>intro _<;>try(exfalso;omega))|refine stq ?_|refine Cll.emb hb [(0,0),(1,1),(2,2)] [] (aE ([])) [(0,.map (fsM gs')),(1,.cells [.map 0] true),(2,.cells [jY n' k] true)] [(3,.cells ((x::xs).flatMap fQ) false)] rfl aq bxA rdA bxA reA ?_|refine ad.lst ?_|refine Chk.mk (aM (λ_=>rfl) _) ?_|refine Chk.mk (by rw[aj (c:=fQ) (sz:=1) (λ_=>rfl)];omega) ?_|fail)
    all_goals(conv=>whnf)
    rw[List.append_nil] at g7;refine⟨j+1,x::xs,gs',⟨⟨by omega,g7⟩,g5⟩,by omega,?_⟩;exact lq [(0,0),(1,1),(2,2),(3,3)] []
   | cons y ys=>
    have hv1:(y::ys).length=ys.length+1:=rfl;repeat' ((conv=>whnf);first|exact kQ|(refine bk ?_ ?_<;>intro _<;>try(exfalso;omega))|refine stq ?_|refine Cll.emb hb [(0,0),(1,1),(2,2)] [] (aE (y::ys)) [(0,.map (fsM gs')),(1,.cells [.map 0] true),(2,.cells [jY n' k] true)] [(3,.cells ((x::xs).flatMap fQ) false)] rfl aq bxA rdA bxA reA ?_|refine ad.lst ?_|refine Chk.mk (aM (λ_=>rfl) _) ?_|refine Chk.growX 8 1 rfl rfl om om si ?_|fail)
    all_goals(conv=>whnf)
    refine⟨j+1,(x::xs)++(y::ys),gs',⟨⟨by omega,g7⟩,g5⟩,by omega,?_⟩;exact lq [(0,0),(1,1),(2,2),(3,12)] []
 ·rw[kE om] at g2;have hs:=hS acc om;subst g2;generalize exs ex t=acc at *;cases acc with
  | nil=>
   repeat' ((conv=>whnf);first|exact kQ|(refine bk ?_ ?_<;>intro _<;>try(exfalso;omega))|refine stq ?_|refine Cll.give (.cons (.same (aO _)) (.cons .nil .nil)) hs ?_|fail)
   all_goals(conv=>whnf)
   exact aI.same (aG _) rfl
  | cons x xs=>
   repeat' ((conv=>whnf);first|exact kQ|(refine bk ?_ ?_<;>intro _<;>try(exfalso;omega))|refine stq ?_|refine Cll.give (.cons (.same (aO _)) (.cons (Rd.frzI rfl rfl rfl rfl rfl) .nil)) hs ?_|fail)
   all_goals(conv=>whnf)
   exact aI.same (aG _) rfl
end
section
open Go Go.Am Classical
set_option maxRecDepth 100000
set_option linter.unusedVariables false
theorem C1 {n n':Nm}{t:List Int}(hN:i5 n n') (ht:t.length<=1500):Pu Tryz.prog 77 [nmD n,aE t] (aE (bY n' false t)):=by
 have hT:=ux (k:=false) hN ht;refine pv Tryz.func77 ?_;repeat' ((conv=>whnf);first|exact kQ|(refine bk ?_ ?_<;>intro _<;>try(exfalso;omega))|refine stq ?_|refine cp hT ?_|fail)
 all_goals(conv=>whnf)
 exact aI.same (aG _) rfl
theorem Co {n n':Nm}{t:List Int}(hN:i5 n n') (ht:t.length<=1500):Pu Tryz.prog 26 [nmD n,i64 2,aE t] (aE (bY n' false t)):=by
 have hT:=C1 hN ht;refine pv Tryz.func26 ?_;repeat' ((conv=>whnf);first|exact kQ|(refine bk ?_ ?_<;>intro _<;>try(exfalso;omega))|refine stq ?_|refine cp hT ?_|fail)
 all_goals(conv=>whnf)
 exact aI.same (aG _) rfl
end
section
open Go Go.Am Classical
set_option maxRecDepth 100000
set_option linter.unusedVariables false
theorem xI4.rdX {p:Prop}(h:p:=by first|exact Rd.same (aG _)|exact Rd.same (cS _)|fail):p:=h
theorem xI4.rbX {p:Prop}(h:p:=by first|exact Rb.cells (Rds.same (kv _)) rfl|fail):p:=h
open xI4
structure Elm where
 p:Int
 s:Int
 t:Int
 v:Bool
structure Ent where
 cs:List Int
 es:List Elm
structure Grp where
 nm:Str
 lo:Int
 hi:Int
structure Col where
 es:List Ent
 gs:List Grp
 b:Int
 s:Int
 t:Int
abbrev hZ (e:Elm):List D:=[i64 e.p,i64 e.s,i64 e.t,boo e.v]
abbrev elms (l:List Elm):D:=lstS hZ l
abbrev vo (e:Ent):List D:=[aE e.cs,elms e.es]
abbrev r7 (l:List Ent):D:=lstS vo l
abbrev grpC (g:Grp):List D:=[.str g.nm,i64 g.lo,i64 g.hi]
abbrev pE (l:List Grp):D:=lstS grpC l
abbrev iW (c:Col):List D:=[r7 c.es,pE c.gs,i64 c.b,i64 c.s,i64 c.t]
abbrev qL (c:Col):D:=.agg (iW c)
theorem cS (l:List Elm):aL (elms l)=true:=ef (λ_=>rfl) l
theorem kv (e:Ent):aJ (vo e)=true:=by simp[aJ,aG,cS]
theorem bO (l:List Ent):aL (r7 l)=true:=ef kv l
theorem bN (l:List Grp):aL (pE l)=true:=ef (λ_=>rfl) l
theorem dw (c:Col):aJ (iW c)=true:=by simp[aJ,aL,bO,bN]
theorem c7 (c:Col):aL (qL c)=true:=dw c
def fe {α:Type}(f:α->Int):List α->Int
 | []=>0
 | x::l=>if f x=0 then fe f l else f x
theorem r4 {α:Type}{f:α->Int}:∀ {l:List α},fe f l=0->∀ x∈l,f x=0
 | [],_,x,hx=>by simp at hx
 | y::l,h,x,hx=>by
  simp only[fe] at h;split at h
  ·rename_i h0;rcases List.mem_cons.1 hx with rfl|hx
   ·exact h0
   ·exact r4 h x hx
  ·contradiction
theorem uG {α:Type}{f:α->Int}{l:List α}{k:Nat}(h:k<l.length):fe f (l.drop k)=if f l[k]=0 then fe f (l.drop (k+1)) else f l[k]:=by
 rw[kK h];rfl
theorem pL {α:Type}{f:α->Int}{l:List α}{k:Nat}(h:¬k<l.length):fe f (l.drop k)=0:=by rw[List.drop_of_length_le om];rfl
def elmA (e:Elm):Prop:=(0<=e.p∧e.p<=65535)∧(0<=e.s∧e.s<=65535)∧(0<=e.t∧e.t<=65535)
def r9 (e:Elm):Prop:=¬(e.p≠0∧(e.s=0∨e.t=0))∧¬(e.s≠0∧e.t=0)∧¬(e.v=true∧e.p=0)
noncomputable def jd (e:Elm):Int:=if elmA e then(if r9 e then 0 else 11) else 1
theorem vu {p s t:Int}:r9 ⟨p,s,t,false⟩↔(¬(p≠0∧(s=0∨t=0))∧¬(s≠0∧t=0)):=by simp[r9]
theorem uM {p s t:Int}(hp:0<=p∧p<=65535) (hs:0<=s∧s<=65535) (ht:0<=t∧t<=65535):Pu Tryz.prog 270 [.agg [i64 p,i64 s,i64 t,boo false]] (i64 (jd ⟨p,s,t,false⟩)):=by
 have eE:jd ⟨p,s,t,false⟩=if r9 ⟨p,s,t,false⟩ then 0 else 11:=if_pos ⟨hp,hs,ht⟩
 have eB:=vu (p:=p) (s:=s) (t:=t);generalize r9 ⟨p,s,t,false⟩=B at *;rw[eE];refine pv Tryz.func270 ?_;repeat' ((conv=>whnf);first|exact kQ|(refine bk ?_ ?_<;>intro _<;>try(exfalso;omega))|refine stq ?_|refine aH.times aA T0 4 ?_|fail)
 all_goals(conv=>whnf)
 all_goals first
  | exact aI.int (by rw[if_pos (eB.2 om)])
  | exact aI.int (by rw[if_neg (λh=>by have:=eB.1 h;omega)])
theorem yl {p s t:Int}:r9 ⟨p,s,t,true⟩↔(¬(p≠0∧(s=0∨t=0))∧¬(s≠0∧t=0)∧p≠0):=by simp[r9]
theorem vq {p s t:Int}(hp:0<=p∧p<=65535) (hs:0<=s∧s<=65535) (ht:0<=t∧t<=65535):Pu Tryz.prog 270 [.agg [i64 p,i64 s,i64 t,boo true]] (i64 (jd ⟨p,s,t,true⟩)):=by
 have eE:jd ⟨p,s,t,true⟩=if r9 ⟨p,s,t,true⟩ then 0 else 11:=if_pos ⟨hp,hs,ht⟩
 have eB:=yl (p:=p) (s:=s) (t:=t);generalize r9 ⟨p,s,t,true⟩=B at *;rw[eE];refine pv Tryz.func270 ?_;repeat' ((conv=>whnf);first|exact kQ|(refine bk ?_ ?_<;>intro _<;>try(exfalso;omega))|refine stq ?_|refine aH.times aA T0 4 ?_|fail)
 all_goals(conv=>whnf)
 all_goals first
  | exact aI.int (by rw[if_pos (eB.2 om)])
  | exact aI.int (by rw[if_neg (λh=>by have:=eB.1 h;omega)])
theorem elmNo {p s t:Int}{v:Bool}(h:¬((0<=p∧p<=65535)∧(0<=s∧s<=65535)∧(0<=t∧t<=65535))):Pu Tryz.prog 270 [.agg [i64 p,i64 s,i64 t,boo v]] (i64 1):=by
 refine pv Tryz.func270 ?_;by_cases h1:0<=p∧p<=65535
 ·by_cases h2:0<=s∧s<=65535
  ·have h3:¬(0<=t∧t<=65535):=λh3=>h ⟨h1,h2,h3⟩
   clear h;repeat' ((conv=>whnf);first|exact kQ|(refine bk ?_ ?_<;>intro _<;>try(exfalso;omega))|refine stq ?_|refine aH.times aA T0 4 ?_|fail)
   all_goals(conv=>whnf)
   all_goals exact aI.int rfl
  ·clear h;repeat' ((conv=>whnf);first|exact kQ|(refine bk ?_ ?_<;>intro _<;>try(exfalso;omega))|refine stq ?_|refine aH.times aA T0 4 ?_|fail)
   all_goals(conv=>whnf)
   all_goals exact aI.int rfl
 ·clear h;repeat' ((conv=>whnf);first|exact kQ|(refine bk ?_ ?_<;>intro _<;>try(exfalso;omega))|refine stq ?_|refine aH.times aA T0 4 ?_|fail)
  all_goals(conv=>whnf)
  all_goals exact aI.int rfl
theorem vt {e:Elm}:Pu Tryz.prog 270 [.agg (hZ e)] (i64 (jd e)):=by
 obtain⟨p,s,t,v⟩:=e;by_cases h:(0<=p∧p<=65535)∧(0<=s∧s<=65535)∧(0<=t∧t<=65535)
 ·cases v
  ·exact uM h.1 h.2.1 h.2.2
  ·exact vq h.1 h.2.1 h.2.2
 ·have e:jd ⟨p,s,t,v⟩=1:=if_neg h;rw[e];exact elmNo h
noncomputable def cdE (c:Int):Int:=if 0<=c∧c<=1114111 then 0 else 1
noncomputable def prE (b:Int) (e:Elm):Int:=if b<=e.p then 1 else 0
noncomputable def i0 (b:Int) (e:Ent):Int:=
 if e.cs.length<1∨8<e.cs.length∨16<e.es.length then 2 else if fe cdE e.cs=0 then(if fe jd e.es=0 then fe (prE b) e.es else fe jd e.es) else fe cdE e.cs
set_option maxHeartbeats 4000000 in
theorem sD {b:Int}{e:Ent}(hc:e.cs.length<=100000) (he:e.es.length<=100000):Pu Tryz.prog 157 [.agg (vo e),i64 b] (i64 (i0 b e)):=by
 refine Pu.of_v aA T0 Tryz.func157 rfl rfl (aQ (AQ (kv _)) rfl) ?_;by_cases h0:e.cs.length<1∨8<e.cs.length∨16<e.es.length
 ·have e0:i0 b e=2:=by unfold i0;rw[if_pos h0]
  rw[e0];repeat' ((conv=>whnf);first|exact kQ|(refine bk ?_ ?_<;>intro _<;>try(exfalso;omega))|refine stq ?_)
  all_goals(conv=>whnf)
  all_goals first
   | exact aI.int rfl
 ·have e0:i0 b e=if fe cdE e.cs=0 then(if fe jd e.es=0 then fe (prE b) e.es else fe jd e.es) else fe cdE e.cs:=by unfold i0;rw[if_neg h0]
  rw[e0];repeat' ((conv=>whnf);first|exact kQ|(refine bk ?_ ?_<;>intro _<;>try(exfalso;omega))|refine stq ?_|fail)
  refine aH.by aA T0 (λk:Nat=>⟨tmp 64 [(1,i64 b),(2,.ptr 0 0),(29,aE e.cs),(30,i64 e.cs.length),(31,i64 (k:Int))],⟨1,[(0,.cells (vo e) true)]⟩⟩) (λk=>k<=e.cs.length∧fe cdE e.cs=fe cdE (e.cs.drop k)) (λk=>e.cs.length-k) 0 ⟨by omega,rfl⟩ ?_ ?_
  ·exact lq [(0,0)] []
  intro k ⟨h1,h2⟩;by_cases hk:k<e.cs.length
  ·rw[uG hk] at h2;repeat' ((conv=>whnf);first|exact kQ|(refine bk ?_ ?_<;>intro _<;>try(exfalso;omega))|refine stq ?_|refine cd iA (λ_=>?_) (λ_=>?_)|fail)
   all_goals(conv=>whnf)
   ·have e1:cdE e.cs[k]=0:=by unfold cdE;rw[if_pos asm]
    rw[if_pos e1] at h2;refine⟨k+1,⟨by omega,h2⟩,by omega,?_⟩;exact lq [(0,0)] []
   ·have e1:cdE e.cs[k]=1:=by unfold cdE;rw[if_neg asm]
    rw[e1,if_neg om] at h2;exact aI.int (by rw[h2];rfl)
  rw[pL hk] at h2;rw[if_pos h2];repeat' ((conv=>whnf);first|exact kQ|(refine bk ?_ ?_<;>intro _<;>try(exfalso;omega))|refine stq ?_|fail)
  refine aH.by aA T0 (λk:Nat=>⟨tmp 64 [(1,i64 b),(2,.ptr 0 0),(40,elms e.es),(41,i64 e.es.length),(42,i64 (k:Int))],⟨1,[(0,.cells (vo e) true)]⟩⟩) (λk=>k<=e.es.length∧fe jd e.es=fe jd (e.es.drop k)) (λk=>e.es.length-k) 0 ⟨by omega,rfl⟩ ?_ ?_
  ·exact lq [(0,0)] []
  intro k ⟨h1,h3⟩;by_cases hk:k<e.es.length
  ·rw[uG hk] at h3;have hec:=vt (e:=e.es[k]);repeat' ((conv=>whnf);first|exact kQ|(refine bk ?_ ?_<;>intro _<;>try(exfalso;omega))|refine stq ?_|refine cp hec ?_|fail)
   all_goals(conv=>whnf)
   ·have e1:jd e.es[k]=0:=by assumption
    rw[if_pos e1] at h3;refine⟨k+1,⟨by omega,h3⟩,by omega,?_⟩;exact lq [(0,0)] []
   ·have e1:¬jd e.es[k]=0:=by assumption
    rw[if_neg e1] at h3;exact aI.int (by rw[h3,if_neg e1])
  rw[pL hk] at h3;rw[if_pos h3];repeat' ((conv=>whnf);first|exact kQ|(refine bk ?_ ?_<;>intro _<;>try(exfalso;omega))|refine stq ?_|fail)
  refine aH.by aA T0 (λk:Nat=>⟨tmp 64 [(1,i64 b),(2,.ptr 0 0),(53,elms e.es),(54,i64 e.es.length),(55,i64 (k:Int))],⟨1,[(0,.cells (vo e) true)]⟩⟩) (λk=>k<=e.es.length∧fe (prE b) e.es=fe (prE b) (e.es.drop k)) (λk=>e.es.length-k) 0 ⟨by omega,rfl⟩ ?_ ?_
  ·exact lq [(0,0)] []
  intro k ⟨h1,h4⟩;by_cases hk:k<e.es.length
  ·rw[uG hk] at h4;repeat' ((conv=>whnf);first|exact kQ|(refine bk ?_ ?_<;>intro _<;>try(exfalso;omega))|refine stq ?_)
   all_goals(conv=>whnf)
   ·have e1:prE b e.es[k]=1:=by unfold prE;rw[if_pos asm]
    rw[e1,if_neg om] at h4;exact aI.int (by rw[h4])
   ·have e1:prE b e.es[k]=0:=by unfold prE;rw[if_neg asm]
    rw[if_pos e1] at h4;refine⟨k+1,⟨by omega,h4⟩,by omega,?_⟩;exact lq [(0,0)] []
  rw[pL hk] at h4;repeat' ((conv=>whnf);first|exact kQ|(refine bk ?_ ?_<;>intro _<;>try(exfalso;omega))|refine stq ?_)
  all_goals(conv=>whnf)
  exact aI.int h4.symm
end
section
open Go Go.Am Classical
set_option maxRecDepth 100000
set_option linter.unusedVariables false
structure Opt where
 st:Int
 vr:Int
 bw:Bool
 id:Bool
abbrev gm (o:Opt):List D:=[i64 o.st,i64 o.vr,boo o.bw,boo o.id]
abbrev ob (o:Opt):D:=.agg (gm o)
def Opt.good (o:Opt):Prop:=(1<=o.st∧o.st<=4)∧(o.vr=1∨o.vr=2∨o.vr=3)
noncomputable def fv (o:Opt):Opt:=if o.good then o else⟨3,1,false,false⟩
theorem ed (o:Opt):(fv o).good:=by
 unfold fv;split
 ·assumption
 ·exact⟨by simp,.inl rfl⟩
theorem x7 {o:Opt}:∃ e:Int,Pu Tryz.prog 146 [ob o] (i64 e)∧(e=0↔o.good):=by
 by_cases h1:1<=o.st∧o.st<=4
 ·by_cases h2:o.vr=1∨o.vr=2∨o.vr=3
  ·refine⟨0,?_,⟨λ_=>⟨h1,h2⟩,λ_=>rfl⟩⟩;refine pv Tryz.func146 ?_;repeat' ((conv=>whnf);first|exact kQ|(refine bk ?_ ?_<;>intro _<;>try(exfalso;omega))|refine stq ?_)
   all_goals(conv=>whnf)
   all_goals exact aI.int rfl
  ·refine⟨8,?_,⟨λh=>by omega,λh=>absurd h.2 h2⟩⟩;refine pv Tryz.func146 ?_;repeat' ((conv=>whnf);first|exact kQ|(refine bk ?_ ?_<;>intro _<;>try(exfalso;omega))|refine stq ?_)
   all_goals(conv=>whnf)
   all_goals exact aI.int rfl
 ·refine⟨1,?_,⟨λh=>by omega,λh=>absurd h.1 h1⟩⟩;refine pv Tryz.func146 ?_;repeat' ((conv=>whnf);first|exact kQ|(refine bk ?_ ?_<;>intro _<;>try(exfalso;omega))|refine stq ?_)
  all_goals(conv=>whnf)
  all_goals exact aI.int rfl
theorem nR {o:Opt}:Pu Tryz.prog 68 [ob o] (ob (fv o)):=by
 obtain⟨e,h1,h2⟩:=x7 (o:=o);refine pv Tryz.func68 ?_;by_cases hg:o.good
 ·have he:=h2.2 hg;rw[show fv o=o from if_pos hg];repeat' ((conv=>whnf);first|exact kQ|(refine bk ?_ ?_<;>intro _<;>try(exfalso;omega))|refine stq ?_|refine cp h1 ?_|fail)
  all_goals(conv=>whnf)
  exact aI.same rfl rfl
 ·have he:¬e=0:=λh=>hg (h2.1 h)
  rw[show fv o=⟨3,1,false,false⟩ from if_neg hg];repeat' ((conv=>whnf);first|exact kQ|(refine bk ?_ ?_<;>intro _<;>try(exfalso;omega))|refine stq ?_|refine cp h1 ?_|fail)
  all_goals(conv=>whnf)
  exact aI.same rfl rfl
theorem y5 {P:Program}{t e:TypeId}{n:Nat}{k:IntKind}{ox oy:Operand}(h:P.underlying t=some (.array n e)) (he:P.underlying e=some (.int k)) (hs:aw P (sizeOf e)=some 1) (hg:P.eqGuardType P.depth t=false) (us ws:List Int) (ha:us.length=n) (hb:ws.length=n) :
  bA P .neq t ox oy (.agg (us.map i64)) (.agg (ws.map i64))=some (boo (!decide (us=ws))):=by
 have e1:aw P (do eqGuard .neq t ox oy (.agg (fI us)) (.agg (fI ws));binOp .neq t (.agg (fI us)) (.agg (fI ws)))=some (.bool (!decide (us=ws))):=by
  have e2:aw P (Op.equalIn 10000 t (.agg (fI us)) (.agg (fI ws)))=some (decide (us=ws)):=nC (d:=9998) h he hs us ws ha hb;simp[eqGuard,binOp,bU,dh,hg,Op.equal,Op.maxDepth,e2,cR,mT]
 have e3:bA P .neq t ox oy (.agg (us.map i64)) (.agg (ws.map i64))=(match toV (.agg (us.map i64)),toV (.agg (ws.map i64)) with
  | some a,some b=>(match aw P (do eqGuard .neq t ox oy a b;binOp .neq t a b) with|some r=>ofV r|none=>none)
  | _,_=>none):=rfl
 rw[e3];simp only[toV,mM,kF];rw[e1];rfl
noncomputable def wgt (vr:Int) (fol:Bool) (e:Elm):List Int×Bool:=
 if vr=1 then([e.p,e.s,e.t,if [e.p,e.s,e.t,0]=[0,0,0,0] then 0 else 65535],fol)
 else if e.v=true then([0,0,0,if vr=2 then 0 else e.p],true)
 else if e.p=0 then(if fol=true then([0,0,0,0],true) else([e.p,e.s,e.t,if vr=2 then 0 else if [e.p,e.s,e.t,0]=[0,0,0,0] then 0 else 65535],false))
 else([e.p,e.s,e.t,if vr=2 then 0 else if [e.p,e.s,e.t,0]=[0,0,0,0] then 0 else 65535],false)
abbrev gX (w:List Int):D:=.agg (w.map i64)
theorem arr4 {us:List Int}{ox oy:Operand}(ha:us.length=4):bA Tryz.prog .neq 243 ox oy (.agg (us.map i64)) (.agg [i64 0,i64 0,i64 0,i64 0])=some (boo (!decide (us=[0,0,0,0]))):=
 y5 (k:=.i64) rfl rfl (by kernel_rfl) (by kernel_rfl) us [0,0,0,0] ha rfl
theorem spl {P:Program}{op:BinOp}{t:TypeId}{ox oy:Operand}{a b d:D}{K:D->Prop}(h:bA P op t ox oy a b=some d) (k:K d):(match bA P op t ox oy a b with|some d=>K d|none=>False):=by rw[h];exact k
end
end Go.Proofs.YticpeeooobajgaaGreatDoor
