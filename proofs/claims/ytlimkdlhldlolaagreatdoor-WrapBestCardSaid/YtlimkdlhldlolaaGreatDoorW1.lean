/-
  The reference's parser: lines one by one.
-/
import Derived.Test.YtlimkdlhldlolaaGreatDoorD0
set_option linter.unusedSectionVars false
namespace Go.Proofs.YtlimkdlhldlolaaGreatDoor
open Go Go.Am
set_option maxHeartbeats 2000000
section
open Classical
set_option maxRecDepth 100000
theorem xW1.rdX {p:Prop}(h:p:=by first|exact Rd.tup (Rds.cons (Rd.same (dP _)) (Rds.same rfl))|exact(by first|(rw[h0];exact Rd.nil;done)|fail)|fail):p:=h
theorem xW1.rbX {p:Prop}(h:p:=by first|exact Rb.cells (Rds.cons (C5 (l:=c0::cs0) rfl rfl om) (Rds.cons (Rd.same rfl) (Rds.cons (Rd.same rfl) (Rds.cons Rd.nil (Rds.cons Rd.nil (Rds.same rfl)))))) rfl|exact Rb.cells (Rds.same (zq _ _ _ _ _ _)) rfl|exact Rb.cells (HY rfl rfl) rfl|exact Rb.cells (Rds.same (aE (λ_=>rfl) _)) rfl|exact Rb.cells (Rds.same (aE eF _)) rfl|fail):p:=h
open xW1
structure Rdr where
 names:List Str
 pats:List Pat
 att:List Int
 toks:List Str
 i:Int
def mF (a b:Nat) (cl:List Str) (r:Rdr):List D:=[strs cl,aP a 1 r.names,aP b 3 r.pats,aC r.att,strs r.toks,i64 r.i,boo false,boo false]
def mv (z a b:Nat) (cl:List Str) (r:Rdr):List (Nat×Box):=(z,.cells (mF a b cl r) true)::(bS a (λs=>[D.str s]) r.names++bS b bJ r.pats)
theorem Gw [GT] {P:Program}{g:FuncId}{ds:List D}{h:aA}{d:D}{h1:aA}(hp:AC1 P g ds h d h1) (fz:Nat->Bool) (σ:Nat->Option Nat){d0:D}{h0:aA}(hlo:h.next<=h0.next)
  (s1:∀ i' i,i' < h.next->σ i'=some i->i=i') (s2:∀ i',h0.next<=i'->σ i'=none) (s3:∀ i j k,σ i=some k->σ j=some k->i=j) (hr:Rd h1 fz σ d d0)
  (hb:∀ id b0,h0.get id=some b0->∃ i,σ id=some i/\fz i=false/\∃ b,h1.get i=some b/\Rb h1 fz σ b b0):AC1 P g ds h d0 h0:=by
 obtain⟨hent,hcall⟩:=hp;refine⟨hent,λc vs R hvs=>(hcall c vs R hvs).mono ?_⟩;rintro e w' ⟨v,c1,rfl,rfl,v1,r1,g1,p1⟩
 let c2:Ctx:={ c1 with S:=λb=>c1.S b\/∃ id o box,fz id=true/\h1.get id=some box/\c1.φ id=some (b,o),φ:=λi=>if i<h.next then c1.φ i else match σ i with|some k=>c1.φ k|none=>none }
 have hlt:∀ i,i<h.next->c2.φ i=c1.φ i:=λi hi=>if_pos hi
 have hφ:∀ id' id,σ id'=some id->c2.φ id'=c1.φ id:=λid' id hs=>by
  by_cases hi:id' < h.next
  .rw[hlt _ hi,s1 _ _ hi hs]
  .show(if id' < h.next then c1.φ id' else match σ id' with|some k=>c1.φ k|none=>none)=_;rw[if_neg hi,hs]
 have T:oX c1 h1 fz σ c2:=⟨r1,rfl,λb hb=>.inl hb,λid b o box q1 q2 q3=>.inr ⟨id,o,box,q1,q2,q3⟩,hφ⟩
 have hk:a7 c c2:=⟨λb hb=>.inl (g1.keeps.S b hb),λid x hx=>by
  have hi:id<h.next:=by
   by_cases hi:id<h.next
   .exact hi
   .rw[R.fresh id om] at hx;cases hx
  rw[hlt _ hi];exact g1.keeps.φ id x hx,g1.keeps.cells,g1.keeps.shape⟩
 have hown:∀ b,bc c2 h0 b->bc c1 h1 b:=λb ⟨id,box,o,q1,q2⟩=>by
  obtain⟨i,q3,_,b1,q4,_⟩:=hb id box q1;rw[hφ _ _ q3] at q2;exact⟨i,b1,o,q4,q2⟩
 refine⟨v,c2,rfl,rfl,hr.sound T v v1,⟨λb hb2=>?_,λid hid=>?_,λid b0 hg=>?_,λi j bi bj b o o' q1 q2 q3 q4=>?_,GT.kept hk R.inv⟩,⟨hk,g1.os,g1.tape,g1.output,g1.size,hlo,g1.frame,λb ho=>g1.own b (hown b ho),λb hs=>?_⟩,λj hj=>by rw[hlt _ hj];exact p1 j hj⟩
 .rcases hb2 with hb2|⟨id,o,box,_,q2,q3⟩
  .exact r1.size b hb2
  .obtain⟨b',o',x1,_,x3⟩:=r1.live id box q2;rw[x1] at q3;injection q3 with q3;injection q3 with e1 _;subst e1
   exact x3.lt
 .show(if id<h.next then c1.φ id else match σ id with|some k=>c1.φ k|none=>none)=none;rw[if_neg om,s2 id hid]
 .obtain⟨i,q0,hf,b1,q1,q2⟩:=hb id b0 hg;obtain⟨b,o,x1,x2,x3⟩:=r1.live i b1 q1;refine⟨b,o,by rw[hφ _ _ q0];exact x1,?_,q2.sound T x3⟩;rintro(hs|⟨idf,of,bf,y1,y2,y3⟩)
  .exact x2 hs
  .have:=r1.inj i idf b1 bf b o of q1 y2 x1 y3
   subst this;rw[hf] at y1;cases y1
 .obtain⟨i',y1,_,b1,x1,_⟩:=hb i bi q1;obtain⟨j',y2,_,b2,x2,_⟩:=hb j bj q2;rw[hφ _ _ y1] at q3;rw[hφ _ _ y2] at q4;have:=r1.inj i' j' b1 b2 b o o' x1 x2 q3 q4
  subst this;exact s3 i j i' y1 y2
 .rcases hs with hs|⟨id,o,box,_,q2,q3⟩
  .exact g1.stable b hs
  .exact .inr (g1.own b ⟨id,box,o,q2,q3⟩)
def ua (l:List (Nat×Box)):HT:=l.foldr (λp t=>t.put p.1 p.2) .emp
theorem qM [GT]:∀ (l:List (Nat×Box)) (i:Nat),(ua l).get i=aY l i
 | [],_=>rfl
 | (k,b)::l,i=>by
  show((ua l).put k b).get i=_;rw[HT.get_put,qM l i];rfl
theorem Ch (cl:List Str) (rs:List Rul):aK (.tup [.agg [strs cl,lstS cC rs],.agg [i64 0,i64 0]])=true:=by
 letI:=gtR;simp only[aK,aF,aX,dP,Bool.and_true]
theorem tN:∀ s:List Str,ep (s.map D.str)=true
 | []=>rfl
 | _::s=>tN s
theorem C5 {h:aA}{fz:Nat->Bool}{σ:Nat->Option Nat}{id n cap:Nat}{l:List Str}{ex bx:Bool}(hf:fz id=true) (hg:h.get id=some (.cells (l.map D.str) bx)) (e:n=l.length):Rd h fz σ (.sl id 0 n cap 1 ex) (strs l):=by
 letI:=gtR;subst e;refine .frz hf hg si (.eqs ?_ (aU (λ_=>rfl) _));rw[List.drop_zero,kE si]
def gc:D->Nat
 | .sl id _ _ _ _ _=>id
 | _=>0
def endR (h h':HT) (cl:List Str) (r:Rdr):List D->Bool
 | [c,n,p,a,t,i,s1,s2]=>cQ h' 100000 c (strs cl)&&cQ h' 100000 a (aC r.att)&&cQ h' 100000 t (strs r.toks)&&eqD i (i64 r.i)&&eqD s1 (boo false)&&eqD s2 (boo false) &&
  (match r.names with
  | []=>eqD n aJ&&Nat.beq (gc n) 0
  | x::l=>eqD n (.sl (gc n) 0 (x::l).length (x::l).length 1 false)&&Nat.blt 0 (gc n)&&(match h.get (gc n) with|some (.cells nc false)=>nW nc ((x::l).flatMap λs=>[D.str s])|_=>false)) &&
  (match r.pats with
  | []=>eqD p aJ&&Nat.beq (gc p) 0
  | x::l=>eqD p (.sl (gc p) 0 (x::l).length (x::l).length 3 false)&&Nat.blt 0 (gc p)&&(match h.get (gc p) with|some (.cells pc false)=>jl h' 100000 pc ((x::l).flatMap bJ)|_=>false)) &&
  (Nat.beq (gc n) 0 || !Nat.beq (gc n) (gc p))
 | _=>false
def ids (cs:List D):Nat×Nat:=match cs with|[_,n,p,_,_,_,_,_]=>(gc n,gc p)|_=>(0,0)
noncomputable def bO (sp:FuncId->List D->Option D) (cl:List Str) (r:Rdr) (rs:List Rul) (l:Str) (r':Rdr) (rs':List Rul):Bool:=
 cK gtR Tryz.prog (ci Tryz.prog) sp 100 (.fn 95) [.ptr 0 0,.str l,lstS cC rs] (ua (mv 0 1 2 cl r)) 3 (λd h nx=>
  match d with
  | .tup [d0,e]=>eqD e (i64 0)&&Nat.ble nx 100000 &&
   (match h.get 0 with
   | some (.cells cs true)=>cQ (((h.del 0).del (ids cs).1).del (ids cs).2) 100000 d0 (lstS cC rs')&&endR h (((h.del 0).del (ids cs).1).del (ids cs).2) cl r' cs
   | _=>false)
  | _=>false)
def sgR (n p:Nat) (i:Nat):Option Nat:=if i=0 then some 0 else if i=3/\n≠0 then some n else if i=4/\p≠0 then some p else none
theorem nbF {a b:Nat}(h:a≠b):Nat.beq a b=false:=by
 cases hx:Nat.beq a b with
 | false=>rfl
 | true=>exact absurd (Nat.eq_of_beq_eq_true hx) h
theorem H9 {sp:FuncId->List D->Option D}(S:@mg gtR Tryz.prog sp){cl:List Str}{r r':Rdr}{rs rs':List Rul}{l:Str}(h:bO sp cl r rs l r' rs'=true) :
  @AC1 gtR Tryz.prog 95 [.ptr 0 0,.str l,lstS cC rs] ⟨3,mv 0 1 2 cl r⟩ (.tup [lstS cC rs',i64 0]) ⟨100000,mv 0 3 4 cl r'⟩:=by
 letI:=gtR;unfold bO at h;rw[ru] at h;obtain⟨d1,h1,nx1,k1,k2⟩:=iV aB T0 S 100 _ _ _ _ _ h;have e0:Heq ((ua (mv 0 1 2 cl r)).heap 3) ⟨3,mv 0 1 2 cl r⟩:=⟨rfl,λi=>by rw[HT.heap_get,qM];rfl⟩
 replace k1:AC1 Tryz.prog 95 [.ptr 0 0,.str l,lstS cC rs] ⟨3,mv 0 1 2 cl r⟩ d1 (h1.heap nx1):=AC1.congr e0 (Heq.refl _) k1
 split at k2
 .rename_i d0 e;simp only[kC,Nat.ble_eq] at k2;obtain⟨⟨e1,e2⟩,e3⟩:=k2;rw[dS _ _ e1] at k1;split at e3
  .rename_i cs hg;simp only[kC] at e3;obtain⟨e3,e4⟩:=e3;unfold endR at e4;split at e4
   .rename_i c n p a t i q1 q2;simp only[ids] at e3 e4;generalize hn:gc n=N at e3 e4;generalize hp:gc p=M at e3 e4;generalize hh:((h1.del 0).del N).del M=h' at e3 e4;simp only[kC,kN,Nat.beq_eq,Bool.not_eq_true'] at e4;obtain⟨⟨⟨⟨⟨⟨⟨⟨f1,f2⟩,f3⟩,f4⟩,f5⟩,f6⟩,f7⟩,f8⟩,f9⟩:=e4
    let fz:Nat->Bool:=λi=>!(Nat.beq i 0 || (Nat.beq i N || Nat.beq i M))
    have up:∀ id b,(h'.heap 0).get id=some b->(h1.heap nx1).get id=some b/\fz id=true:=λid b hx=>by
     rw[HT.heap_get,<-hh,HT.get_del,HT.get_del,HT.get_del] at hx;split at hx
     .cases hx
     split at hx
     .cases hx
     split at hx
     .cases hx
     rename_i m1 m2 m3;refine⟨by rw[HT.heap_get];exact hx,?_⟩;simp only[fz,Bool.not_eq_true',Bool.or_eq_false_iff];exact⟨nbF λe=>m3 e.symm,nbF λe=>m2 e.symm,nbF λe=>m1 e.symm⟩
    have up1:∀ {d d':D},cQ h' 100000 d d'=true->Rd (h1.heap nx1) fz (sgR N M) d d':=λhx=>(jL (m:=0) _ _ _ hx).lift up
    have up2:∀ {d d':List D},jl h' 100000 d d'=true->Rds (h1.heap nx1) fz (sgR N M) d d':=λhx=>(ia (m:=0) _ _ _ hx).lift up
    have z0:sgR N M 0=some 0:=rfl;have z3:N≠0->sgR N M 3=some N:=λhN=>by simp[sgR,hN]
    have z4:M≠0->sgR N M 4=some M:=λhM=>by simp[sgR,hM]
    have rn:Rd (h1.heap nx1) fz (sgR N M) n (aP 3 1 r'.names):=by
     cases hx:r'.names with
     | nil=>
      rw[hx] at f7;simp only[kC] at f7;rw[dS _ _ f7.1];exact .same rfl
     | cons x l=>
      rw[hx] at f7;simp only[kC,Nat.blt_eq] at f7;rw[dS _ _ f7.1.1];exact .sl (z3 om)
    have rp:Rd (h1.heap nx1) fz (sgR N M) p (aP 4 3 r'.pats):=by
     cases hx:r'.pats with
     | nil=>
      rw[hx] at f8;simp only[kC] at f8;rw[dS _ _ f8.1];exact .same rfl
     | cons x l=>
      rw[hx] at f8;simp only[kC,Nat.blt_eq] at f8;rw[dS _ _ f8.1.1];exact .sl (z4 om)
    have rr:Rb (h1.heap nx1) fz (sgR N M) (.cells [c,n,p,a,t,i,q1,q2] true) (.cells (mF 3 4 cl r') true):=by
     rw[dS _ _ f4,dS _ _ f5,dS _ _ f6];exact .cells (.cons (up1 f1) (.cons rn (.cons rp (.cons (up1 f2) (.cons (up1 f3) (.same rfl)))))) rfl
    have fN:fz N=false:=by simp[fz]
    have fM:fz M=false:=by simp[fz]
    refine Gw k1 fz (sgR N M) (by show 3<=100000;omega) ?_ ?_ ?_ (.tup (.cons (up1 e3) (.cons (.same rfl) .nil))) ?_
    .intro i' i hi hs;have hi':i' < 3:=hi;unfold sgR at hs;split at hs
     .rename_i h0;injection hs with hs;omega
     .rw[if_neg om,if_neg om] at hs;cases hs
    .intro i' hi;have hi':100000<=i':=hi;unfold sgR;rw[if_neg om,if_neg om,if_neg om]
    .intro i j k hi hj;unfold sgR at hi hj;split at hi<;>split at hj
     .omega
     .split at hj
      .injection hi with hi;injection hj with hj;omega
      .split at hj
       .injection hi with hi;injection hj with hj;omega
       .cases hj
     .split at hi
      .injection hi with hi;injection hj with hj;omega
      .split at hi
       .injection hi with hi;injection hj with hj;omega
       .cases hi
     .split at hi<;>split at hj
      .omega
      .split at hj
       .injection hi with hi;injection hj with hj
        rcases f9 with f9|f9
        .omega
        .have:=Nat.ne_of_beq_eq_false f9;omega
       .cases hj
      .split at hi
       .injection hi with hi;injection hj with hj
        rcases f9 with f9|f9
        .omega
        .have:=Nat.ne_of_beq_eq_false f9;omega
       .cases hi
      .split at hi
       .split at hj
        .omega
        .cases hj
       .cases hi
    .intro id b0 hx
     replace hx:aY (mv 0 3 4 cl r') id=some b0:=hx
     simp only[mv,aY] at hx;split at hx
     .rename_i h0;subst h0;injection hx with hx;subst hx
      exact⟨0,z0,by simp[fz],_,by rw[HT.heap_get];exact hg,rr⟩
     .rw[yB] at hx;cases hnm:r'.names with
      | nil=>
       rw[hnm] at hx;cases hpt:r'.pats with
       | nil=>rw[hpt] at hx;simp[bS,aY] at hx
       | cons y m=>
        rw[hpt] at hx f8;simp only[bS,aY,Option.none_or] at hx;split at hx
        .rename_i h4;subst h4;injection hx with hx;subst hx
         simp only[kC,Nat.blt_eq] at f8;obtain⟨⟨g1,g2⟩,g3⟩:=f8;split at g3
         .rename_i pc hpc;exact⟨M,z4 om,fM,_,by rw[HT.heap_get];exact hpc,.cells (up2 g3) rfl⟩
         .cases g3
        .cases hx
      | cons x k=>
       rw[hnm] at hx f7;simp only[bS,aY] at hx;split at hx
       .rename_i h3;subst h3;rw[Option.some_or] at hx;injection hx with hx;subst hx
        simp only[kC,Nat.blt_eq] at f7;obtain⟨⟨g1,g2⟩,g3⟩:=f7;split at g3
        .rename_i nc hnc;rw[e9 _ _ g3] at hnc;exact⟨N,z3 om,fN,_,by rw[HT.heap_get];exact hnc,.cells (.same (aE (λ_=>rfl) _)) rfl⟩
        .cases g3
       .rw[Option.none_or] at hx;cases hpt:r'.pats with
        | nil=>rw[hpt] at hx;simp[aY] at hx
        | cons y m=>
         rw[hpt] at hx f8;simp only[aY] at hx;split at hx
         .rename_i h4;subst h4;injection hx with hx;subst hx
          simp only[kC,Nat.blt_eq] at f8;obtain⟨⟨g1,g2⟩,g3⟩:=f8;split at g3
          .rename_i pc hpc;exact⟨M,z4 om,fM,_,by rw[HT.heap_get];exact hpc,.cells (up2 g3) rfl⟩
          .cases g3
         .cases hx
   .cases e4
  .cases e3
 .cases k2
theorem BD {cl:List Str}(h:cK gtR Tryz.prog (ci Tryz.prog) spC 100 (.fn 93) [strs cl] .emp 0 (λd1 h1 _=>cQ h1 100000 d1 (boo true))=true):@Pu gtR Tryz.prog 93 [strs cl] (boo true):=by
 letI:=gtR;exact Pu.of_t aB T0 eZ (by simp[aF,aX]) h
theorem Aq {s:Str}{l:List Str}(h:cK gtR Tryz.prog (ci Tryz.prog) spC 100 (.fn 94) [.str s,.v (.int .u8 10)] .emp 0 (λd1 h1 _=>cQ h1 100000 d1 (strs l))=true):@Pu gtR Tryz.prog 94 [.str s,.v (.int .u8 10)] (strs l):=by
 letI:=gtR;exact Pu.of_t aB T0 eZ rfl h
theorem zq (x y:Nat) (cl:List Str) (a:List Int) (t:List Str) (i:Int):aF (mF x y cl ⟨[],[],a,t,i⟩)=true:=by
 letI:=gtR;simp only[mF,aP,aF,aX,aM,Bool.and_true];rfl
theorem HY [GT] {h:aA}{fz:Nat->Bool}{σ:Nat->Option Nat}{a b a' b':Nat}{cl:List Str}{r:Rdr}(ha:σ a'=some a) (hb:σ b'=some b):Rds h fz σ (mF a b cl r) (mF a' b' cl r):=
 .cons (.same (aX _)) (.cons (Rd.owns ha) (.cons (Rd.owns hb) (.cons (.same (aM _)) (.cons (.same (aX _)) (.same rfl)))))
theorem A3 {cl:List Str}{text:Str}{L:List Str}{st:Nat->Rdr×List Rul}{rs:List Rul}(h0:st 0=(⟨[],[],[],[],0⟩,[])) (hN:@Pu gtR Tryz.prog 93 [strs cl] (boo true)) (hS:@Pu gtR Tryz.prog 94 [.str text,.v (.int .u8 10)] (strs L)) (hcl0:0<cl.length) (hcl:cl.length<=1000) (ht:text.length<=65536) (hL:L.length<=1000)
  (hl:∀ j,j<L.length->bO spC cl (st j).1 (st j).2 (L.getD j []) (st (j+1)).1 (st (j+1)).2=true) (hB:((List.range (L.length+1)).all λj=>(st j).1.names.isEmpty == (st j).1.pats.isEmpty)=true) (hr:(st L.length).2=rs):@Pu gtR Tryz.prog 64 [strs cl,.str text] (.tup [.agg [strs cl,lstS cC rs],.agg [i64 0,i64 0]]):=by
 letI:=gtR
 have hM:∀ j,j<=L.length->((st j).1.names=[]↔(st j).1.pats=[]):=λj hj=>by
  have:=List.all_eq_true.1 hB j (List.mem_range.2 om)
  rw[beq_iff_eq] at this;rw[<-List.isEmpty_iff,<-List.isEmpty_iff,this]
 subst hr;refine pv Tryz.func64 ?_
 obtain⟨c0,cs0,rfl⟩:∃ a b,cl=a::b:=by
  cases cl with
  | nil=>simp at hcl0
  | cons a b=>exact⟨a,b,rfl⟩
 have hcs:(c0::cs0).length=cs0.length+1:=rfl;repeat' ((conv=>whnf);first|refine eI.lst ?_|exact kQ|(refine bk ?_ ?_<;>intro _<;>try exact exo)|refine stq ?_|refine cp hN ?_|refine cp hS ?_|refine Chk.mk (tN _) ?_|refine Chk.growX 16 1 rfl rfl om om si ?_|fail)
 (conv=>whnf)
 refine aG.by aB T0 (λk:Nat=>⟨tmp 60 [(4,.ptr 0 0),(5,.ptr 1 0),(6,.ptr 2 0),(7,lstS cC (st k).2),(8,strs L),(9,i64 (k:Int))],⟨5,mv 2 3 4 (c0::cs0) (st k).1++[(1,.cells [i64 0,i64 0] true),(0,.cells [aJ,aJ] true)]⟩⟩)
  (λk=>k<=L.length) (λk=>L.length-k) 0 om ?_ ?_
 .have e0:mv 2 3 4 (c0::cs0) (st 0).1++[(1,.cells [i64 0,i64 0] true),(0,.cells [aJ,aJ] true)]=[(2,.cells (mF 3 4 (c0::cs0) ⟨[],[],[],[],0⟩) true),(1,.cells [i64 0,i64 0] true),(0,.cells [aJ,aJ] true)]:=by rw[h0];rfl
  rw[e0];exact lq [(0,_),(1,_),(2,_)] [10]
 intro k h4;by_cases hk:k<L.length
 .have hline:=H9 eZ (hl k hk);rw[aH hk] at hline;have m0:=hM k om;have m1:=hM (k+1) om;cases hr0:(st k).1 with
  | mk n0 p0 a0 t0 i0=>
  cases hr1:(st (k+1)).1 with
  | mk n1 p1 a1 t1 i1=>
  rw[hr0] at m0;rw[hr1] at m1;rw[hr0,hr1] at hline;dsimp only at m0 m1;cases n0 with
  | nil=>
   have:=m0.1 rfl
   subst this;cases n1 with
   | nil=>
    have:=m1.1 rfl
    subst this;repeat' ((conv=>whnf);first|exact kQ|(refine bk ?_ ?_<;>intro _<;>try exact exo)|refine stq ?_|refine Cll.emb hline [(0,2)] [] (.tup [lstS cC (st (k+1)).2,i64 0]) [(2,.cells (mF 3 4 (c0::cs0) ⟨[],[],a1,t1,i1⟩) true)] [(1,.cells [i64 0,i64 0] true),(0,.cells [aJ,aJ] true)] rfl cO bxA rdA bxA reA ?_|fail)
    (conv=>whnf)
    refine⟨k+1,om,om,?_⟩;rw[show mv 2 3 4 (c0::cs0) (st (k+1)).1++[(1,.cells [i64 0,i64 0] true),(0,.cells [aJ,aJ] true)]=[(2,.cells (mF 3 4 (c0::cs0) ⟨[],[],a1,t1,i1⟩) true)]++[(1,.cells [i64 0,i64 0] true),(0,.cells [aJ,aJ] true)] by rw[hr1];rfl];exact lq [(0,_),(1,_),(2,_)] []
   | cons x1 l1=>
    cases p1 with
    | nil=>exact absurd (m1.2 rfl) si
    | cons y1 q1=>
    repeat' ((conv=>whnf);first|exact kQ|(refine bk ?_ ?_<;>intro _<;>try exact exo)|refine stq ?_|refine Cll.emb hline [(0,2)] [] (.tup [lstS cC (st (k+1)).2,i64 0]) [(2,.cells (mF 16 17 (c0::cs0) ⟨x1::l1,y1::q1,a1,t1,i1⟩) true),(16,.cells ((x1::l1).flatMap λs=>[D.str s]) false),(17,.cells ((y1::q1).flatMap bJ) false)] [(1,.cells [i64 0,i64 0] true),(0,.cells [aJ,aJ] true)] rfl cO bxA rdA bxA reA ?_|fail)
    (conv=>whnf)
    refine⟨k+1,om,om,?_⟩;rw[show mv 2 3 4 (c0::cs0) (st (k+1)).1++[(1,.cells [i64 0,i64 0] true),(0,.cells [aJ,aJ] true)]=[(2,.cells (mF 3 4 (c0::cs0) ⟨x1::l1,y1::q1,a1,t1,i1⟩) true),(3,.cells ((x1::l1).flatMap λs=>[D.str s]) false),(4,.cells ((y1::q1).flatMap bJ) false)]++[(1,.cells [i64 0,i64 0] true),(0,.cells [aJ,aJ] true)] by rw[hr1];rfl];exact lq [(0,_),(1,_),(2,_),(3,_),(4,_)] []
  | cons x0 l0=>
   cases p0 with
   | nil=>exact absurd (m0.2 rfl) si
   | cons y0 q0=>
   cases n1 with
   | nil=>
    have:=m1.1 rfl
    subst this;repeat' ((conv=>whnf);first|exact kQ|(refine bk ?_ ?_<;>intro _<;>try exact exo)|refine stq ?_|refine Cll.emb hline [(0,2),(1,3),(2,4)] [] (.tup [lstS cC (st (k+1)).2,i64 0]) [(2,.cells (mF 3 4 (c0::cs0) ⟨[],[],a1,t1,i1⟩) true)] [(1,.cells [i64 0,i64 0] true),(0,.cells [aJ,aJ] true)] rfl cO bxA rdA bxA reA ?_|fail)
    (conv=>whnf)
    refine⟨k+1,om,om,?_⟩;rw[show mv 2 3 4 (c0::cs0) (st (k+1)).1++[(1,.cells [i64 0,i64 0] true),(0,.cells [aJ,aJ] true)]=[(2,.cells (mF 3 4 (c0::cs0) ⟨[],[],a1,t1,i1⟩) true)]++[(1,.cells [i64 0,i64 0] true),(0,.cells [aJ,aJ] true)] by rw[hr1];rfl];exact lq [(0,_),(1,_),(2,_)] []
   | cons x1 l1=>
    cases p1 with
    | nil=>exact absurd (m1.2 rfl) si
    | cons y1 q1=>
    repeat' ((conv=>whnf);first|exact kQ|(refine bk ?_ ?_<;>intro _<;>try exact exo)|refine stq ?_|refine Cll.emb hline [(0,2),(1,3),(2,4)] [] (.tup [lstS cC (st (k+1)).2,i64 0]) [(2,.cells (mF 16 17 (c0::cs0) ⟨x1::l1,y1::q1,a1,t1,i1⟩) true),(16,.cells ((x1::l1).flatMap λs=>[D.str s]) false),(17,.cells ((y1::q1).flatMap bJ) false)] [(1,.cells [i64 0,i64 0] true),(0,.cells [aJ,aJ] true)] rfl cO bxA rdA bxA reA ?_|fail)
    (conv=>whnf)
    refine⟨k+1,om,om,?_⟩;rw[show mv 2 3 4 (c0::cs0) (st (k+1)).1++[(1,.cells [i64 0,i64 0] true),(0,.cells [aJ,aJ] true)]=[(2,.cells (mF 3 4 (c0::cs0) ⟨x1::l1,y1::q1,a1,t1,i1⟩) true),(3,.cells ((x1::l1).flatMap λs=>[D.str s]) false),(4,.cells ((y1::q1).flatMap bJ) false)]++[(1,.cells [i64 0,i64 0] true),(0,.cells [aJ,aJ] true)] by rw[hr1];rfl];exact lq [(0,_),(1,_),(2,_),(3,_),(4,_)] []
 .have hkk:k=L.length:=om;subst hkk;cases hr0:(st L.length).1 with
  | mk n0 p0 a0 t0 i0=>
  cases n0<;>cases p0
  all_goals
   repeat' ((conv=>whnf);first|exact kQ|(refine bk ?_ ?_<;>intro _<;>try exact exo)|refine stq ?_|fail)
   (conv=>whnf)
   exact(aD.same (Ch _ _) rfl:aD _ (.tup [.agg [strs (c0::cs0),lstS cC (st L.length).2],.agg [i64 0,i64 0]]) _)
end
section
def HK:Str->Str->List Str
 | a,[]=>[a.reverse]
 | a,c::l=>if Nat.beq c.toNat 10 then a.reverse::HK [] l else HK (c::a) l
def tkL:Str->Str->List Str
 | a,[]=>if a.isEmpty then [] else [a.reverse]
 | a,c::l=>
  if Nat.ble 48 c.toNat&&Nat.ble c.toNat 57 || Nat.ble 65 c.toNat&&Nat.ble c.toNat 90 || Nat.ble 97 c.toNat&&Nat.ble c.toNat 122 then tkL (c::a) l
  else(if a.isEmpty then [] else [a.reverse])++(if Nat.beq c.toNat 32 then [] else [[c]])++tkL [] l
end
end Go.Proofs.YtlimkdlhldlolaaGreatDoor
