/-
  Contracts of functions over data: a pattern added to a machine, the whole.
-/
import Derived.Test.YtlimkdlhldlolaaGreatDoorC8
set_option linter.unusedSectionVars false
namespace Go.Proofs.YtlimkdlhldlolaaGreatDoor
set_option maxHeartbeats 8000000
set_option maxRecDepth 100000
section
open Go Go.Am Classical
theorem xC11.rdX {p:Prop}(h:p:=by first|exact BT rfl rfl rfl rfl|exact Rd.fn Rds.nil (Rds.cons (Rd.ptr rfl) (Rds.cons (Rd.frzp rfl rfl (Rds.cons (Rd.same rfl) Rds.nil)) (Rds.cons (Rd.ptr rfl) (Rds.cons (Rd.ptr rfl) (Rds.cons (BT rfl rfl rfl rfl) Rds.nil)))))|exact Rd.owns rfl|exact Rd.same (fR _ _)|exact Rd.fn Rds.nil (Rds.cons (Rd.ptr rfl) (Rds.cons (Rd.same rfl) (Rds.cons (Rd.ptr rfl) (Rds.cons (Rd.ptr rfl) (Rds.cons (Rd.same (fR _ _)) Rds.nil)))))|exact Rd.slx rfl|exact Rd.same (eF _)|exact nS (l:=[first]) rfl rfl rfl|exact Rd.own (l:=([]:List Nat)++[(([]:List (List Nat))).length]) sim rfl sim sim|exact Rd.own (l:=(z::zs)++[((x::xs)).length]) sim rfl sim sim|fail):p:=h
theorem xC11.rbX {p:Prop}(h:p:=by first|exact Rb.map (Res.same (dZ _ _))|exact Rb.cells (Rds.same (aE tU _)) rfl|exact Rb.cells (Rds.eqs (aQ (c:=nkC) (by intro _;rfl) (([]:List Nat)) _) (aE oA _)) rfl|exact Rb.cells (Rds.eqs (aQ (c:=nkC) (by intro _;rfl) ((z::zs)) _) (aE oA _)) rfl|exact Rb.map (Res.eqs rfl (dZ _ _))|exact Rb.cells (Rds.cons Rd.nil (Rds.cons Rd.nil Rds.nil)) rfl|fail):p:=h
open xC11
variable [GT]
theorem FI {n e F:Nat}{b:Bool}{p:Pat}{next next':List (List Nat)}{hits hits':List Bool}{roots roots':List Nat}(hF:F<=10000) (hn:n<=1000) (_he:e<=1000) (hcase:(next=[]/\roots=[])\/(next≠[]/\roots≠[])) (hh:hits.length=next.length) (hnl:next.length<=10000) (hrl:roots.length<=10000)
  (h:v7 b F n e p next hits roots=some (next',hits',roots')) :
  AC1 Tryz.prog 108 [.ptr 0 0,.agg (bJ p)] ⟨4,maB n e b next hits roots⟩ (.tup []) ⟨16,maR n e b next' hits' roots'⟩:=by
 unfold v7 at h;cases hadd':lb b F p 0 [⟨[],[]⟩] with
 | none=>simp[hadd'] at h
 | some q=>
 obtain⟨first,ns⟩:=q;simp only[hadd'] at h;have hadd:=yk F p 0 [⟨[],[]⟩] first ns hadd';split at h
 .rename_i hok;cases hclo':clo ns F [] [first] [] with
  | none=>simp[hclo'] at h
  | some s0=>
  simp only[hclo'] at h;have hclo:=uD (b:=b) (x:=first) (xs:=[]) (F:=F) om (by have:=(lG hok).1;omega) si hclo';split at h
  .rename_i hos0;cases hst:stp ns F s0 (e:Int) with
   | none=>simp[hst] at h
   | some r=>
   simp only[hst] at h;split at h
   .rename_i hor;cases hsets:oc ns F n e next.length F 0 [s0] next (hits++[decide (r=[0])]) with
    | none=>simp[hsets] at h
    | some q=>
    obtain⟨nx',hi'⟩:=q;simp only[hsets] at h
    have hnx:nx'≠[]/\hi'.length=nx'.length/\nx'.length<=10000:=by
     by_cases hnx:nx'≠[]/\hi'.length=nx'.length/\nx'.length<=10000
     .exact hnx
     .rw[if_neg hnx] at h;cases h
    rw[if_pos hnx] at h;simp only[kA,kB] at h;obtain⟨rfl,rfl,rfl⟩:=h;refine AC1.of_vs aB T0 Tryz.func108 rfl rfl ?_;rcases hcase with⟨rfl,rfl⟩|⟨h1,h2⟩
    .obtain rfl:hits=[]:=List.eq_nil_of_length_eq_zero (l:=hits) (by simpa using hh);repeat' ((conv=>whnf);first|exact kQ|(refine bk ?_ ?_<;>intro _<;>try exact exo)|refine stv ?_|fail)
     iterate 6
      refine bX.go aB T0 ?_;repeat' ((conv=>whnf);first|exact kQ|(refine bk ?_ ?_<;>intro _<;>try exact exo)|refine stv ?_|refine Get.all (dN _) ?_|refine Cll.emb hadd [(0,13),(1,7)] [] (i64 (first:Int)) [(13,.cells [.sl 30 0 ns.length ns.length 2 false,boo b] true),(30,.cells (ns.flatMap ndC) false)] [(4,.cells [.ptr 0 0] true),(20,.cells [i64 ((([]:List (List Nat))).length:Int)] true),(22,.map []),(23,.cells [.map 22] true),(25,.cells [aJ] true),(0,.cells (mcC n e b (aP 1 1 ([]:List (List Nat))) (aP 2 1 ([]:List Bool)) (aP 3 1 ([]:List Nat))) true)] rfl cO bxA rdA bxA reA ?_|fail)
     refine bX.weak aB T0 (s0:=⟨tmp 83 [(2,.ptr 7 0),(4,iP ns b),(7,.ptr 8 0),(8,clF (([]:List (List Nat))).length ns b),(9,i64 (first:Int))],⟨11,(7,.cells [.ptr 0 0] true)::(8,.cells [aJ] true)::(9,.cells [.map 10] true)::(10,.map [])::maB n e b ([]:List (List Nat)) ([]:List Bool) ([]:List Nat)⟩⟩) ?_ ?_
     .exact lq [(7,_),(8,_),(9,_),(10,_)] [13,20,30]
     repeat' ((conv=>whnf);first|exact kQ|(refine bk ?_ ?_<;>intro _<;>try exact exo)|refine stq ?_|refine ac.byW (id:=7) aB T0 [0,0,2,6,14,0,0,64,192,480,992,2046,4095,8191,16383] (by kernel_rfl) ?_|refine Chk.mk ⟨_,rfl⟩ ?_|refine Cll.emb (hclo ⟨0,[]⟩) [] [18] (dI s0) [] [(7,.cells [.ptr 0 0] true),(8,.cells [aJ] true),(9,.cells [.map 10] true),(10,.map []),(0,.cells (mcC n e b (aP 1 1 ([]:List (List Nat))) (aP 2 1 ([]:List Bool)) (aP 3 1 ([]:List Nat))) true)] rfl cO bxA rdA bxA reA ?_|refine Cll.embF (JW (n:=n) (e:=e) (next:=([]:List (List Nat))) (hits:=([]:List Bool)) (roots:=([]:List Nat)) (b:=b) hok hos0 hor hnl hh om hst) [(0,9),(1,10),(2,8),(4,7),(5,0),(6,2),(7,1),(8,3)] [] (i64 (((([]:List (List Nat))).length:Nat):Int)) [(9,.cells [.map 10] true),(10,.map (pos (b8 [s0]) (([]:List (List Nat))).length)),(8,.cells [.sl 26 0 [s0].length [s0].length 1 false] true),(26,.cells ([s0].flatMap nsC) false),(7,.cells [.ptr 0 0] true),(0,.cells (mcC n e b (aP 1 1 ([]:List (List Nat))) (.sl 27 0 (([]:List Bool)++[decide (r=[0])]).length (([]:List Bool)++[decide (r=[0])]).length 1 false) (aP 3 1 ([]:List Nat))) true),(27,.cells ((([]:List Bool)++[decide (r=[0])]).flatMap blC) false)] [] rfl cO bxA rdA bxA reF ?_|fail)
     refine aG.weak (s0:=⟨tmp 83 [(2,.ptr 7 0),(4,iP ns b),(7,.ptr 8 0),(8,clF (([]:List (List Nat))).length ns b),(10,i64 ((0:Nat):Int))],⟨12,msH n e b (([]:List (List Nat))).length [s0] ([]:List (List Nat)) (([]:List Bool)++[decide (r=[0])]) (([]:List Nat)++[(([]:List (List Nat))).length])⟩⟩) ?_ (JX hF hn hnl hok ?_ ⟨F,0,[s0],([]:List (List Nat)),([]:List Bool)++[decide (r=[0])]⟩ ⟨hsets,si,si,by simp[hos0],si,by rw[kG,hh];rfl,rfl⟩)
     .exact lq3 [(5,_),(6,_),(7,_),(8,_),(9,_),(10,_),(11,_)] []
     intro tm ss;obtain⟨x1,xs1,rfl⟩:=List.exists_cons_of_ne_nil hnx.1;obtain⟨y1,ys1,rfl⟩:=kI (show 0<hi'.length by rw[hnx.2.1];simp);refine⟨Or.inl rfl,rfl,⟨kP _,λid box hg=>?_⟩⟩;rw[<-hg];obtain⟨w1,ws1,hw⟩:∃ w1 ws1,([]:List Nat)++[(([]:List (List Nat))).length]=w1::ws1:=List.exists_cons_of_ne_nil si;rw[hw];simp only[aA.get,aY,bS,aP];by_cases e0:0=id
     .subst e0;rfl
     by_cases e4:4=id
     .subst e4;rfl
     by_cases e5:5=id
     .subst e5;rfl
     by_cases e6:6=id
     .subst e6;rfl
     simp only[aA.get,aY,e0,e4,e5,e6,if_false] at hg;cases hg
    .obtain⟨x,xs,rfl⟩:=List.exists_cons_of_ne_nil h1;obtain⟨z,zs,rfl⟩:=List.exists_cons_of_ne_nil h2;obtain⟨y,ys,rfl⟩:=kI (show 0<hits.length by rw[hh];simp);repeat' ((conv=>whnf);first|exact kQ|(refine bk ?_ ?_<;>intro _<;>try exact exo)|refine stv ?_|fail)
     iterate 6
      refine bX.go aB T0 ?_;repeat' ((conv=>whnf);first|exact kQ|(refine bk ?_ ?_<;>intro _<;>try exact exo)|refine stv ?_|refine Get.all (dN _) ?_|refine Cll.emb hadd [(0,13),(1,7)] [] (i64 (first:Int)) [(13,.cells [.sl 30 0 ns.length ns.length 2 false,boo b] true),(30,.cells (ns.flatMap ndC) false)] [(4,.cells [.ptr 0 0] true),(20,.cells [i64 (((x::xs)).length:Int)] true),(22,.map []),(23,.cells [.map 22] true),(25,.cells [aJ] true),(0,.cells (mcC n e b (aP 1 1 (x::xs)) (aP 2 1 (y::ys)) (aP 3 1 (z::zs))) true),(1,.cells ((x::xs).flatMap ntC) false),(2,.cells ((y::ys).flatMap blC) false),(3,.cells ((z::zs).flatMap nkC) false)] rfl cO bxA rdA bxA reA ?_|fail)
     refine bX.weak aB T0 (s0:=⟨tmp 83 [(2,.ptr 7 0),(4,iP ns b),(7,.ptr 8 0),(8,clF ((x::xs)).length ns b),(9,i64 (first:Int))],⟨11,(7,.cells [.ptr 0 0] true)::(8,.cells [aJ] true)::(9,.cells [.map 10] true)::(10,.map [])::maB n e b (x::xs) (y::ys) (z::zs)⟩⟩) ?_ ?_
     .exact lq [(7,_),(8,_),(9,_),(10,_)] [13,20,30]
     repeat' ((conv=>whnf);first|exact kQ|(refine bk ?_ ?_<;>intro _<;>try exact exo)|refine stq ?_|refine ac.byW (id:=7) aB T0 [0,0,2,6,14,0,0,64,192,480,992,2046,4095,8191,16383] (by kernel_rfl) ?_|refine Chk.mk ⟨_,rfl⟩ ?_|refine Cll.emb (hclo ⟨0,[]⟩) [] [18] (dI s0) [] [(7,.cells [.ptr 0 0] true),(8,.cells [aJ] true),(9,.cells [.map 10] true),(10,.map []),(0,.cells (mcC n e b (aP 1 1 (x::xs)) (aP 2 1 (y::ys)) (aP 3 1 (z::zs))) true),(1,.cells ((x::xs).flatMap ntC) false),(2,.cells ((y::ys).flatMap blC) false),(3,.cells ((z::zs).flatMap nkC) false)] rfl cO bxA rdA bxA reA ?_|refine Cll.embF (JW (n:=n) (e:=e) (next:=(x::xs)) (hits:=(y::ys)) (roots:=(z::zs)) (b:=b) hok hos0 hor hnl hh om hst) [(0,9),(1,10),(2,8),(4,7),(5,0),(6,2),(7,1),(8,3)] [] (i64 ((((x::xs)).length:Nat):Int)) [(9,.cells [.map 10] true),(10,.map (pos (b8 [s0]) ((x::xs)).length)),(8,.cells [.sl 26 0 [s0].length [s0].length 1 false] true),(26,.cells ([s0].flatMap nsC) false),(7,.cells [.ptr 0 0] true),(0,.cells (mcC n e b (aP 1 1 (x::xs)) (.sl 27 0 ((y::ys)++[decide (r=[0])]).length ((y::ys)++[decide (r=[0])]).length 1 false) (aP 3 1 (z::zs))) true),(27,.cells (((y::ys)++[decide (r=[0])]).flatMap blC) false)] [(1,.cells ((x::xs).flatMap ntC) false),(3,.cells ((z::zs).flatMap nkC) false)] rfl cO bxA rdA bxA reF ?_|fail)
     refine aG.weak (s0:=⟨tmp 83 [(2,.ptr 7 0),(4,iP ns b),(7,.ptr 8 0),(8,clF ((x::xs)).length ns b),(10,i64 ((0:Nat):Int))],⟨12,msH n e b ((x::xs)).length [s0] (x::xs) ((y::ys)++[decide (r=[0])]) ((z::zs)++[((x::xs)).length])⟩⟩) ?_ (JX hF hn hnl hok ?_ ⟨F,0,[s0],(x::xs),(y::ys)++[decide (r=[0])]⟩ ⟨hsets,si,si,by simp[hos0],si,by rw[kG,hh];rfl,rfl⟩)
     .exact lq3 [(4,_),(5,_),(6,_),(7,_),(8,_),(9,_),(10,_),(11,_)] []
     intro tm ss;obtain⟨x1,xs1,rfl⟩:=List.exists_cons_of_ne_nil hnx.1;obtain⟨y1,ys1,rfl⟩:=kI (show 0<hi'.length by rw[hnx.2.1];simp);refine⟨Or.inl rfl,rfl,⟨kP _,λid box hg=>?_⟩⟩;rw[<-hg];obtain⟨w1,ws1,hw⟩:∃ w1 ws1,(z::zs)++[((x::xs)).length]=w1::ws1:=List.exists_cons_of_ne_nil si;rw[hw];simp only[aA.get,aY,bS,aP];by_cases e0:0=id
     .subst e0;rfl
     by_cases e4:4=id
     .subst e4;rfl
     by_cases e5:5=id
     .subst e5;rfl
     by_cases e6:6=id
     .subst e6;rfl
     simp only[aA.get,aY,e0,e4,e5,e6,if_false] at hg;cases hg
   .cases h
  .cases h
 .cases h
end
section
open Go Go.Am Classical
theorem xC12.rdX {p:Prop}(h:p:=by first|exact Fr rfl rfl|exact Rd.owns rfl|exact Ia (l:=a0::as0) rfl rfl|exact Rd.same (eR _)|exact Rd.same (fQ _ _ _)|exact Rd.eqd rfl rfl|exact IZ rfl rfl rfl rfl rfl rfl rfl rfl|exact Rd.own (l:=(a0::as0)++[a]) sim rfl sim sim|exact Rd.same (by first|(simp[aK,aF,eR];done)|fail)|fail):p:=h
theorem xC12.rbX {p:Prop}(h:p:=by first|exact Rb.cells (Rds.eqs (aQ (c:=λx:Int=>[i64 x]) (by intro _;rfl) (a0::as0) _) (aE (by intro _;rfl) _)) rfl|fail):p:=h
open xC12
variable [GT]
structure Rul where
 act:Int
 left:Pat
 right:Pat
def cC (r:Rul):List D:=i64 r.act::(bJ r.left++bJ r.right)
theorem j9 (r:Rul):(cC r).length=7:=by simp[cC,dN]
theorem zp (r:Rul):aF (cC r)=true:=by
 simp only[cC,aF,dq,eF,Bool.and_true];rfl
theorem dP (l:List Rul):aK (lstS cC l)=true:=fS zp l
theorem pT (a:Int) (k1:Int) (c1:List Int) (s1:List Pat) (k2:Int) (c2:List Int) (s2:List Pat):cC ⟨a,.mk k1 c1 s1,.mk k2 c2 s2⟩=[i64 a,i64 k1,aC c1,lstS bJ s1,i64 k2,aC c2,lstS bJ s2]:=by
 simp only[cC,bB];rfl
structure Mch where
 nx:List (List Nat)
 hi:List Bool
 ro:List Nat
def gu (b:Bool) (F n e:Nat):List Pat->Mch->Option Mch
 | [],m=>some m
 | p::l,m=>match v7 b F n e p m.nx m.hi m.ro with|none=>none|some (nx,hi,ro)=>gu b F n e l ⟨nx,hi,ro⟩
def okA (n:Nat) (m:Mch):Bool:=Nat.beq m.hi.length m.nx.length&&m.nx.all (λr=>Nat.beq r.length n&&r.all (λx=>Nat.blt x m.nx.length))&&m.ro.all (λx=>Nat.blt x m.nx.length)&&Nat.ble m.nx.length 10000&&Nat.ble m.ro.length 1000
abbrev Aut:=List (List Nat)×List (List Nat)
def comp (F n:Nat) (rs:List Rul):Option (Aut×Aut):=
 match gu true F n n (rs.map (·.left)) ⟨[],[],[]⟩,gu false F n (n+1) (rs.map (·.right)) ⟨[],[],[]⟩ with
 | some L,some R=>
  if okA n L=true/\okA n R=true then
   match i8 n L.nx L.ro F 0 [L.hi] [] [],i8 n R.nx R.ro F 0 [R.hi] [] [] with
   | some a,some b=>some (a,b)
   | _,_=>none
  else none
 | _,_=>none
theorem Bv {b:Bool}{F n e:Nat}{p:Pat}{next next':List (List Nat)}{hits hits':List Bool}{roots roots':List Nat}(h:v7 b F n e p next hits roots=some (next',hits',roots')):next'≠[]/\hits'.length=next'.length/\next'.length<=10000/\roots'=roots++[next.length]:=by
 unfold v7 at h;split at h
 .cases h
 split at h
 .split at h
  .cases h
  split at h
  .split at h
   .cases h
   split at h
   .split at h
    .cases h
    split at h
    .rename_i hc;simp only[kA,kB] at h;obtain⟨rfl,rfl,rfl⟩:=h;exact⟨hc.1,hc.2.1,hc.2.2,rfl⟩
    .cases h
   .cases h
  .cases h
 .cases h
theorem FK {n e F:Nat}{b:Bool}{p:Pat}{next':List (List Nat)}{hits':List Bool}{roots':List Nat}(hF:F<=10000) (hn:n<=1000) (he:e<=1000) (h:v7 b F n e p [] [] []=some (next',hits',roots')) :
  AC1 Tryz.prog 108 [.ptr 0 0,.agg (bJ p)] ⟨4,[(0,.cells (mcC n e b aJ aJ aJ) true)]⟩ (.tup []) ⟨16,maR n e b next' hits' roots'⟩:=
 FI hF hn he (.inl ⟨rfl,rfl⟩) rfl si si h
theorem FJ {n e F:Nat}{b:Bool}{p:Pat}{x:List Nat}{xs next':List (List Nat)}{y:Bool}{ys hits':List Bool}{z:Nat}{zs roots':List Nat}(hF:F<=10000) (hn:n<=1000) (he:e<=1000) (hh:(y::ys).length=(x::xs).length) (hnl:(x::xs).length<=10000) (hrl:(z::zs).length<=10000)
  (h:v7 b F n e p (x::xs) (y::ys) (z::zs)=some (next',hits',roots')) :
  AC1 Tryz.prog 108 [.ptr 0 0,.agg (bJ p)] ⟨4,[(0,.cells (mcC n e b (aP 1 1 (x::xs)) (aP 2 1 (y::ys)) (aP 3 1 (z::zs))) true),(1,.cells ((x::xs).flatMap ntC) false),(2,.cells ((y::ys).flatMap blC) false),(3,.cells ((z::zs).flatMap nkC) false)]⟩ (.tup []) ⟨16,maR n e b next' hits' roots'⟩:=
 FI hF hn he (.inr ⟨si,si⟩) hh hnl hrl h
theorem A7 {n e F:Nat}{b:Bool}{m:Mch}{R M:List (List Nat)}(hn:n<=1000) (ho:okA n m=true) (h:i8 n m.nx m.ro F 0 [m.hi] [] []=some (R,M)) :
  Pu Tryz.prog 109 [.iptr (FL n e b m.nx m.hi m.ro)] (.tup [.agg [bN R,bN M],boo true]):=by
 simp only[okA,kC,kL,Nat.beq_eq,Nat.blt_eq,Nat.ble_eq] at ho;obtain⟨⟨⟨⟨h1,h2⟩,h3⟩,h4⟩,h5⟩:=ho;exact aut_c hn om h1 om h2 h3 h
section
variable {h:aA}{fz:Nat->Bool}{σ:Nat->Option Nat}
theorem Fr {id:Nat}{l:List Str}{ex bx:Bool}(hf:fz id=true) (hg:h.get id=some (.cells (l.map D.str) bx)):Rd h fz σ (.sl id 0 l.length l.length 1 ex) (strs l):=by
 refine .frz hf hg si (.eqs ?_ (aU (λ_=>rfl) _));rw[List.drop_zero,kE si]
theorem Ib {id:Nat}{l:List Bool}{ex bx:Bool}(hf:fz id=true) (hg:h.get id=some (.cells (l.flatMap blC) bx)):Rd h fz σ (.sl id 0 l.length l.length 1 ex) (ap l):=by
 refine .frz hf hg (by rw[aN];simp) (.eqs ?_ (aU (λ_=>rfl) _));rw[List.drop_zero,kE (by rw[aN];simp),aN]
theorem Ia {id:Nat}{l:List Int}{ex bx:Bool}(hf:fz id=true) (hg:h.get id=some (.cells (l.flatMap λx=>[i64 x]) bx)):Rd h fz σ (.sl id 0 l.length l.length 1 ex) (aC l):=by
 refine .frz hf hg (by rw[aN];simp) (.eqs ?_ (aU (λ_=>rfl) _));rw[List.drop_zero,kE (by rw[aN];simp),aN]
theorem IZ {im i1 i2 i3 n e:Nat}{b bx b1 b2 b3:Bool}{x:List Nat}{xs:List (List Nat)}{y:Bool}{ys:List Bool}{z:Nat}{zs:List Nat}(hm:fz im=true) (h1:fz i1=true) (h2:fz i2=true) (h3:fz i3=true)
  (gm:h.get im=some (.cells (mcC n e b (aP i1 1 (x::xs)) (aP i2 1 (y::ys)) (aP i3 1 (z::zs))) bx)) (g1:h.get i1=some (.cells ((x::xs).flatMap ntC) b1)) (g2:h.get i2=some (.cells ((y::ys).flatMap blC) b2)) (g3:h.get i3=some (.cells ((z::zs).flatMap nkC) b3)) :
  Rd h fz σ (.ptr im 0) (.iptr (FL n e b (x::xs) (y::ys) (z::zs))):=
 .frzp hm gm (.cons (.same rfl) (.cons (.same rfl) (.cons (.same rfl) (.cons (rM (l:=x::xs) h1 g1) (.cons (Ib (l:=y::ys) h2 g2) (.cons (vS (l:=z::zs) h3 g3) .nil))))))
end
abbrev cmH (n:Nat) (cl:List Str) (acts:List Int) (L R:Mch):List (Nat×Box):=
 (200000,.cells [aJ,aJ,aJ,aJ,aJ,aJ] true)::(200001,.cells (mcC n n true (aP 200004 1 L.nx) (aP 200005 1 L.hi) (aP 200006 1 L.ro)) true)::(200002,.cells (mcC n (n+1) false (aP 200007 1 R.nx) (aP 200008 1 R.hi) (aP 200009 1 R.ro)) true)::(200003,.cells [strs cl,aP 200010 1 acts,aJ,aJ,aJ,aJ] true) ::
  (bS 200004 ntC L.nx++(bS 200005 blC L.hi++(bS 200006 nkC L.ro++(bS 200007 ntC R.nx++(bS 200008 blC R.hi++(bS 200009 nkC R.ro++bS 200010 (λx=>[i64 x]) acts))))))
structure CPt where
 k:Nat
 acts:List Int
 L:Mch
 R:Mch
theorem DM {bs L2:List (Nat×Box)}{dc dr:D}{cl:List Str}{rs:List Rul}{F N2:Nat}{LN LM RN RM:List (List Nat)}(hF:F<=10000) (hn:cl.length<=999) (hcl0:0<cl.length) (hrl:rs.length<=1000) (hrs0:0<rs.length) (h:comp F cl.length rs=some ((LN,LM),(RN,RM)))
  (hchk:AC1 Tryz.prog 103 [.agg [dc,dr]] ⟨200005,(200001,.cells [aJ,aJ,aJ,aJ,aJ,aJ] true)::(200000,.cells [dc,dr] true)::bs⟩ (i64 0) ⟨N2,L2⟩)
  (hz:aY L2 200001=some (.cells [aJ,aJ,aJ,aJ,aJ,aJ] true)) (hr0:aY L2 200000=some (.cells [dc,dr] true)) {H3:aA} (hl3:∀ id b,H3.get id=some b->aY L2 id=some b/\(id != 200001)=true)
  (hrc:Rd H3 (λ_=>true) (λ_=>none) dc (strs cl)) (hrr:Rd H3 (λ_=>true) (λ_=>none) dr (lstS cC rs)) :
  AC1 Tryz.prog 81 [.agg [dc,dr]] ⟨200000,bs⟩ (.tup [.agg [strs cl,aC (rs.map (·.act)),bN LN,bN LM,bN RN,bN RM],i64 0]) ⟨300000,[]⟩:=by
 unfold comp at h;cases hL:gu true F cl.length cl.length (rs.map (·.left)) ⟨[],[],[]⟩ with
 | none=>simp[hL] at h
 | some LF=>
 cases hR:gu false F cl.length (cl.length+1) (rs.map (·.right)) ⟨[],[],[]⟩ with
 | none=>simp[hL,hR] at h
 | some RF=>
 simp only[hL,hR] at h;by_cases hok:okA cl.length LF=true/\okA cl.length RF=true
 .rw[if_pos hok] at h;cases haL:i8 cl.length LF.nx LF.ro F 0 [LF.hi] [] [] with
  | none=>simp[haL] at h
  | some pL=>
  cases haR:i8 cl.length RF.nx RF.ro F 0 [RF.hi] [] [] with
  | none=>simp[haL,haR] at h
  | some pR=>
  simp only[haL,haR,kA,kB] at h;obtain⟨rfl,rfl⟩:=h;have hpL:=A7 (e:=cl.length) (b:=true) om hok.1 haL;have hpR:=A7 (e:=cl.length+1) (b:=false) om hok.2 haR;refine AC1.of_vs aB T0 Tryz.func81 rfl rfl ?_;repeat' ((conv=>whnf);first|exact kQ|(refine bk ?_ ?_<;>intro _<;>try exact exo)|refine stv ?_|refine p8 ?_|fail)
  refine bX.go aB T0 ?_;repeat' ((conv=>whnf);first|exact kQ|(refine bk ?_ ?_<;>intro _<;>try exact exo)|refine stv ?_|refine p8 ?_|refine Cll.mk ⟨_,_,hchk,?_⟩|fail)
  refine bX.weak aB T0 (s0:=⟨tmp 70 [(1,.iptr [strs cl,lstS cC rs]),(2,.ptr 200000 0),(4,i64 0)],⟨200001,[(200000,.cells [aJ,aJ,aJ,aJ,aJ,aJ] true)]⟩⟩) ?_ ?_
  .exact Lf.ofp [(200000,200001)] (λid=>id != 200001) (.cons rfl (.frzp rfl hr0 (.cons (hrc.lift hl3) (.cons (hrr.lift hl3) .nil))) (.cons rfl (.ptr rfl) (.cons rfl (.same rfl) .nil))) (.cons rfl hz rfl (.cells (.same rfl) rfl) .nil) rfl rfl rfl
  repeat' ((conv=>whnf);first|exact kQ|(refine bk ?_ ?_<;>intro _<;>try exact exo)|refine stq ?_|refine eI.lst ?_|fail)
  refine aG.by aB T0 (λa:CPt=>⟨tmp 70 [(2,.ptr 200000 0),(6,.ptr 200001 0),(7,.ptr 200002 0),(8,.ptr 200003 0),(33,lstS cC rs),(34,i64 rs.length),(35,i64 (a.k:Int))],⟨200011,cmH cl.length cl a.acts a.L a.R⟩⟩)
   (λa=>gu true F cl.length cl.length ((rs.drop a.k).map (·.left)) a.L=some LF/\gu false F cl.length (cl.length+1) ((rs.drop a.k).map (·.right)) a.R=some RF/\a.acts=(rs.take a.k).map (·.act)/\a.k<=rs.length /\
    ((a.k=0/\a.L=⟨[],[],[]⟩/\a.R=⟨[],[],[]⟩)\/(0<a.k/\a.L.nx≠[]/\a.R.nx≠[]/\a.L.hi.length=a.L.nx.length/\a.R.hi.length=a.R.nx.length/\a.L.nx.length<=10000/\a.R.nx.length<=10000/\a.L.ro.length=a.k/\a.R.ro.length=a.k)))
   (λa=>rs.length-a.k) ⟨0,[],⟨[],[],[]⟩,⟨[],[],[]⟩⟩ ⟨hL,hR,si,si,.inl ⟨rfl,rfl,rfl⟩⟩ ?_ ?_
  .exact lq [(200000,_),(200001,_),(200002,_),(200003,_)] [200020]
  intro⟨k,acts,⟨nL,hiL,roL⟩,⟨nR,hiR,roR⟩⟩ ⟨hfL,hfR,hac,hk,hcs⟩;dsimp only at hfL hfR hac hk hcs ⊢;clear hL hR;by_cases hk2:k<rs.length
  .rw[kK hk2] at hfL hfR;simp only[List.map_cons,gu] at hfL hfR;cases haL1:v7 true F cl.length cl.length rs[k].left nL hiL roL with
   | none=>simp[haL1] at hfL
   | some pl=>
   cases haR1:v7 false F cl.length (cl.length+1) rs[k].right nR hiR roR with
   | none=>simp[haR1] at hfR
   | some pr=>
   obtain⟨nL',hiL',roL'⟩:=pl;obtain⟨nR',hiR',roR'⟩:=pr;simp only[haL1] at hfL;simp only[haR1] at hfR;have hneL:=Bv haL1;have hneR:=Bv haR1;have hts:(rs.take (k+1)).map (·.act)=(rs.take k).map (·.act)++[rs[k].act]:=by rw[bI hk2,List.map_append];rfl
   cases hrk:rs[k] with
   | mk a lp rp=>
   cases lp with
   | mk k1 c1 s1=>
   cases rp with
   | mk k2 c2 s2=>
   rw[hrk] at haL1 haR1 hts;have hrc':cC rs[k]=[i64 a,i64 k1,aC c1,lstS bJ s1,i64 k2,aC c2,lstS bJ s2]:=by rw[hrk,pT]
   rcases hcs with⟨h1,h2,h3⟩|⟨h1,h2,h3,h4,h5,h6,h7,h8,h9⟩
   .simp only[Mch.mk.injEq] at h2 h3;obtain⟨rfl,rfl,rfl⟩:=h2;obtain⟨rfl,rfl,rfl⟩:=h3;subst h1;obtain rfl:acts=[]:=by simpa using hac
    have hmL:=FK hF om om haL1;have hmR:=FK hF om om haR1;rw[bB] at hmL hmR;have hroL:roL'.length=1:=by rw[hneL.2.2.2];rfl
    have hroR:roR'.length=1:=by rw[hneR.2.2.2];rfl
    obtain⟨xL,xsL,rfl⟩:=List.exists_cons_of_ne_nil hneL.1;obtain⟨xR,xsR,rfl⟩:=List.exists_cons_of_ne_nil hneR.1;obtain⟨yL,ysL,rfl⟩:=kI (show 0<hiL'.length by rw[hneL.2.1];simp);obtain⟨yR,ysR,rfl⟩:=kI (show 0<hiR'.length by rw[hneR.2.1];simp);obtain⟨zL,zsL,rfl⟩:=kI (show 0<roL'.length by omega);obtain⟨zR,zsR,rfl⟩:=kI (show 0<roR'.length by omega)
    repeat' ((conv=>whnf);first|refine Idx.atSE j9 0 rfl hk2 hrc' ?_|exact kQ|(refine bk ?_ ?_<;>intro _<;>try exact exo)|refine stq ?_|refine Cll.emb hmL [(0,200001)] [] (.tup []) [(200001,.cells (mcC cl.length cl.length true (aP 200027 1 (xL::xsL)) (aP 200028 1 (yL::ysL)) (aP 200029 1 (zL::zsL))) true),(200027,.cells ((xL::xsL).flatMap ntC) false),(200028,.cells ((yL::ysL).flatMap blC) false),(200029,.cells ((zL::zsL).flatMap nkC) false)] [(200000,.cells [aJ,aJ,aJ,aJ,aJ,aJ] true),(200002,.cells (mcC cl.length (cl.length+1) false aJ aJ aJ) true),(200003,.cells [strs cl,.sl 200021 0 1 1 1 false,aJ,aJ,aJ,aJ] true),(200021,.cells [i64 a] false),(200014,.cells [i64 a,i64 k1,aC c1,lstS bJ s1,i64 k2,aC c2,lstS bJ s2] true)] rfl cO bxA rdA bxA reA ?_|refine Cll.emb hmR [(0,200002)] [] (.tup []) [(200002,.cells (mcC cl.length (cl.length+1) false (aP 200042 1 (xR::xsR)) (aP 200043 1 (yR::ysR)) (aP 200044 1 (zR::zsR))) true),(200042,.cells ((xR::xsR).flatMap ntC) false),(200043,.cells ((yR::ysR).flatMap blC) false),(200044,.cells ((zR::zsR).flatMap nkC) false)] [(200000,.cells [aJ,aJ,aJ,aJ,aJ,aJ] true),(200001,.cells (mcC cl.length cl.length true (aP 200027 1 (xL::xsL)) (aP 200028 1 (yL::ysL)) (aP 200029 1 (zL::zsL))) true),(200027,.cells ((xL::xsL).flatMap ntC) false),(200028,.cells ((yL::ysL).flatMap blC) false),(200029,.cells ((zL::zsL).flatMap nkC) false),(200003,.cells [strs cl,.sl 200021 0 1 1 1 false,aJ,aJ,aJ,aJ] true),(200021,.cells [i64 a] false)] rfl cO bxA rdA bxA reA ?_|fail)
    (conv=>whnf)
    refine⟨⟨0+1,[a],⟨xL::xsL,yL::ysL,zL::zsL⟩,⟨xR::xsR,yR::ysR,zR::zsR⟩⟩,⟨hfL,hfR,by dsimp only;rw[hts];rfl,by dsimp only;omega,.inr ⟨by dsimp only;omega,si,si,hneL.2.1,hneR.2.1,hneL.2.2.1,hneR.2.2.1,hroL,hroR⟩⟩,by dsimp only;omega,?_⟩;exact lq [(200000,_),(200001,_),(200002,_),(200003,_),(200004,_),(200005,_),(200006,_),(200007,_),(200008,_),(200009,_),(200010,_)] []
   .obtain⟨xL0,xsL0,rfl⟩:=List.exists_cons_of_ne_nil h2;obtain⟨xR0,xsR0,rfl⟩:=List.exists_cons_of_ne_nil h3;obtain⟨yL0,ysL0,rfl⟩:=kI (show 0<hiL.length by rw[h4];simp);obtain⟨yR0,ysR0,rfl⟩:=kI (show 0<hiR.length by rw[h5];simp);obtain⟨zL0,zsL0,rfl⟩:=kI (show 0<roL.length by omega);obtain⟨zR0,zsR0,rfl⟩:=kI (show 0<roR.length by omega);have hal:acts.length=k:=by rw[hac];simp;omega
    obtain⟨a0,as0,rfl⟩:=kI (show 0<acts.length by omega);have hal2:(a0::as0).length=as0.length+1:=rfl;have hmL:=FJ hF om om h4 h6 om haL1;have hmR:=FJ hF om om h5 h7 om haR1;rw[bB] at hmL hmR;have hroL:roL'.length=k+1:=by rw[hneL.2.2.2,kG,h8];rfl
    have hroR:roR'.length=k+1:=by rw[hneR.2.2.2,kG,h9];rfl
    obtain⟨xL,xsL,rfl⟩:=List.exists_cons_of_ne_nil hneL.1;obtain⟨xR,xsR,rfl⟩:=List.exists_cons_of_ne_nil hneR.1;obtain⟨yL,ysL,rfl⟩:=kI (show 0<hiL'.length by rw[hneL.2.1];simp);obtain⟨yR,ysR,rfl⟩:=kI (show 0<hiR'.length by rw[hneR.2.1];simp);obtain⟨zL,zsL,rfl⟩:=kI (show 0<roL'.length by omega);obtain⟨zR,zsR,rfl⟩:=kI (show 0<roR'.length by omega)
    repeat' ((conv=>whnf);first|refine Idx.atSE j9 k rfl hk2 hrc' ?_|exact kQ|(refine bk ?_ ?_<;>intro _<;>try exact exo)|refine stq ?_|refine Cll.emb hmL [(0,200001),(1,200004),(2,200005),(3,200006)] [] (.tup []) [(200001,.cells (mcC cl.length cl.length true (aP 200027 1 (xL::xsL)) (aP 200028 1 (yL::ysL)) (aP 200029 1 (zL::zsL))) true),(200027,.cells ((xL::xsL).flatMap ntC) false),(200028,.cells ((yL::ysL).flatMap blC) false),(200029,.cells ((zL::zsL).flatMap nkC) false)] [(200000,.cells [aJ,aJ,aJ,aJ,aJ,aJ] true),(200002,.cells (mcC cl.length (cl.length+1) false (aP 200007 1 (xR0::xsR0)) (aP 200008 1 (yR0::ysR0)) (aP 200009 1 (zR0::zsR0))) true),(200007,.cells ((xR0::xsR0).flatMap ntC) false),(200008,.cells ((yR0::ysR0).flatMap blC) false),(200009,.cells ((zR0::zsR0).flatMap nkC) false),(200003,.cells [strs cl,.sl 200021 0 ((a0::as0).length+1) ((a0::as0).length+1) 1 false,aJ,aJ,aJ,aJ] true),(200021,.cells ((((a0::as0).flatMap λx=>[i64 x]).drop 0).take ((a0::as0).length*1)++[i64 a]) false),(200014,.cells [i64 a,i64 k1,aC c1,lstS bJ s1,i64 k2,aC c2,lstS bJ s2] true)] rfl cO bxA rdA bxA reA ?_|refine Cll.emb hmR [(0,200002),(1,200007),(2,200008),(3,200009)] [] (.tup []) [(200002,.cells (mcC cl.length (cl.length+1) false (aP 200042 1 (xR::xsR)) (aP 200043 1 (yR::ysR)) (aP 200044 1 (zR::zsR))) true),(200042,.cells ((xR::xsR).flatMap ntC) false),(200043,.cells ((yR::ysR).flatMap blC) false),(200044,.cells ((zR::zsR).flatMap nkC) false)] [(200000,.cells [aJ,aJ,aJ,aJ,aJ,aJ] true),(200001,.cells (mcC cl.length cl.length true (aP 200027 1 (xL::xsL)) (aP 200028 1 (yL::ysL)) (aP 200029 1 (zL::zsL))) true),(200027,.cells ((xL::xsL).flatMap ntC) false),(200028,.cells ((yL::ysL).flatMap blC) false),(200029,.cells ((zL::zsL).flatMap nkC) false),(200003,.cells [strs cl,.sl 200021 0 ((a0::as0).length+1) ((a0::as0).length+1) 1 false,aJ,aJ,aJ,aJ] true),(200021,.cells ((((a0::as0).flatMap λx=>[i64 x]).drop 0).take ((a0::as0).length*1)++[i64 a]) false)] rfl cO bxA rdA bxA reA ?_|fail)
    (conv=>whnf)
    refine⟨⟨k+1,(a0::as0)++[a],⟨xL::xsL,yL::ysL,zL::zsL⟩,⟨xR::xsR,yR::ysR,zR::zsR⟩⟩,⟨hfL,hfR,by dsimp only;rw[hts,<-hac],by dsimp only;omega,.inr ⟨by dsimp only;omega,si,si,hneL.2.1,hneR.2.1,hneL.2.2.1,hneR.2.2.1,hroL,hroR⟩⟩,by dsimp only;omega,?_⟩;exact lq [(200000,_),(200001,_),(200002,_),(200003,_),(200004,_),(200005,_),(200006,_),(200007,_),(200008,_),(200009,_),(200010,_)] []
  .rw[List.drop_eq_nil_of_le om] at hfL hfR;simp only[List.map_nil,gu,kA] at hfL hfR;subst hfL hfR;rcases hcs with⟨h1,h2,h3⟩|⟨h1,h2,h3,h4,h5,h6,h7,h8,h9⟩
   .omega
   obtain⟨xL0,xsL0,rfl⟩:=List.exists_cons_of_ne_nil h2;obtain⟨xR0,xsR0,rfl⟩:=List.exists_cons_of_ne_nil h3;obtain⟨yL0,ysL0,rfl⟩:=kI (show 0<hiL.length by rw[h4];simp);obtain⟨yR0,ysR0,rfl⟩:=kI (show 0<hiR.length by rw[h5];simp);obtain⟨zL0,zsL0,rfl⟩:=kI (show 0<roL.length by omega);obtain⟨zR0,zsR0,rfl⟩:=kI (show 0<roR.length by omega);have hal:acts.length=k:=by rw[hac];simp;omega
   rw[kE om] at hac;rw[<-hac];obtain⟨a0,as0,rfl⟩:=kI (show 0<acts.length by omega);repeat' ((conv=>whnf);first|refine bX.weak (nb:=200000) (x:=Code.ret) aB T0 (s0:=⟨tmp 70 [(2,.ptr 200000 0),(3,i64 0)],⟨200001,[(200000,.cells [strs cl,aC (a0::as0),bN LN,bN LM,bN RN,bN RM] true)]⟩⟩) ?_ ?_|exact kQ|(refine bk ?_ ?_<;>intro _<;>try exact exo)|refine stq ?_|refine Cll.emb (hpL ⟨0,[]⟩) [] [200001,200004,200005,200006] (.tup [.agg [bN LN,bN LM],boo true]) [] [(200000,.cells [aJ,aJ,aJ,aJ,aJ,aJ] true),(200002,.cells (mcC cl.length (cl.length+1) false (aP 200007 1 (xR0::xsR0)) (aP 200008 1 (yR0::ysR0)) (aP 200009 1 (zR0::zsR0))) true),(200007,.cells ((xR0::xsR0).flatMap ntC) false),(200008,.cells ((yR0::ysR0).flatMap blC) false),(200009,.cells ((zR0::zsR0).flatMap nkC) false),(200003,.cells [strs cl,aP 200010 1 (a0::as0),aJ,aJ,aJ,aJ] true),(200010,.cells ((a0::as0).flatMap λx=>[i64 x]) false)] rfl cO bxA rdA bxA reA ?_|refine Cll.emb (hpR ⟨0,[]⟩) [] [200002,200007,200008,200009] (.tup [.agg [bN RN,bN RM],boo true]) [] [(200000,.cells [aJ,aJ,aJ,aJ,aJ,aJ] true),(200003,.cells [strs cl,aP 200010 1 (a0::as0),bN LN,bN LM,aJ,aJ] true),(200010,.cells ((a0::as0).flatMap λx=>[i64 x]) false)] rfl cO bxA rdA bxA reA ?_|exact⟨Or.inr rfl,rfl,⟨kD rfl,λ_ _ h=>by cases h⟩⟩|fail)
   exact lq [(200000,_)] [200010]
 .rw[if_neg hok] at h;cases h
end
end Go.Proofs.YtlimkdlhldlolaaGreatDoor
