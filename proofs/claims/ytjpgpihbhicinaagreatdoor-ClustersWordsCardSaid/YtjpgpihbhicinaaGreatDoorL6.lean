/-
  The example at the head of the statements of layer 33.
-/
import Derived.Test.YtjpgpihbhicinaaGreatDoorL5
import Derived.Test.YtjpgpihbhicinaaGreatDoorV0
set_option linter.unusedSectionVars false
namespace Go.Proofs.YtjpgpihbhicinaaGreatDoor
section
open Go Go.Am
set_option maxRecDepth 1000000
abbrev qn:Prp:=⟨[[79,116,104,101,114]],[]⟩
abbrev DY:Prp:=⟨[[79,116,104,101,114],[67,82],[76,70],[69,120,116,101,110,100]],[⟨10,10,2⟩,⟨13,13,1⟩,⟨769,769,3⟩]⟩
abbrev smp:Db:=⟨0,0,qn,qn,qn,DY,qn,qn,qn,[],[],[],[],[],[],[],[],[],[],[],[],[]⟩
abbrev rE:D:=.agg [strs cl1,aQ (rs1.map (·.act)),bR LN1,bR LM1,bR RN1,bR RM1]
noncomputable def Ci (g:FuncId) (ds:List D):Option D:=
 if Nat.beq g 67=true then(if oO ds [rE]=true then some (boo true) else none) else spC g ds
open Classical in
theorem valid1:@Pu gtR Tryz.prog 67 [rE] (boo true):=by
 letI:=gtR;have h:=iQ (t:=t1) tv1.2;rw[decide_eq_true tv1.1,t1,←rC] at h;exact h
theorem xA:@oT gtR Tryz.prog Ci:=fun g ds d h=>by
 letI:=gtR;unfold Ci at h;split at h
 ·rename_i hg;obtain rfl:=Nat.eq_of_beq_eq_true hg;split at h
  ·rename_i he;injection h with h;subst h
   rw[fP _ _ he];exact valid1
  ·cases h
 ·exact lG g ds d h
theorem smp_c:@Pu gtR Tryz.prog 29 [] (dbD smp):=by
 letI:=gtR;exact Pu.of_t aA T0 lG rfl (by kernel_rfl:jB gtR Tryz.prog (iS Tryz.prog) spC 100 (.fn 29) [] .emp 0 (fun d1 h1 _=>gk h1 100000 d1 (dbD smp))=true)
theorem xC:@Pu gtR Tryz.prog 49 [dbD smp] (i64 0):=by
 letI:=gtR;exact Pu.of_t aA T0 lG (by kernel_rfl) (by kernel_rfl:jB gtR Tryz.prog (iS Tryz.prog) spC 1000 (.fn 49) [dbD smp] .emp 0 (fun d1 h1 _=>gk h1 100000 d1 (i64 0))=true)
theorem Cj:∀ k,k<7→(prop smp k).names.length≤30∧(prop smp k).spans.length≤16:=fun k hk=>by
 rcases(by omega:k=0∨k=1∨k=2∨k=3∨k=4∨k=5∨k=6) with rfl|rfl|rfl|rfl|rfl|rfl|rfl
 all_goals exact⟨by decide,by decide⟩
theorem smp_a (a:Bool):@Pu gtR Tryz.prog 52 [fF DY,rE,aQ (if a then [97,769,98] else [13,10,97])] (aQ [2,1,2,2]):=by
 letI:=gtR;cases a
 ·exact Pu.of_t aA T0 xA (by kernel_rfl) (by kernel_rfl:jB gtR Tryz.prog (iS Tryz.prog) Ci 1000 (.fn 52) [fF DY,rE,aQ [13,10,97]] .emp 0 (fun d1 h1 _=>gk h1 100000 d1 (aQ [2,1,2,2]))=true)
 ·exact Pu.of_t aA T0 xA (by kernel_rfl) (by kernel_rfl:jB gtR Tryz.prog (iS Tryz.prog) Ci 1000 (.fn 52) [fF DY,rE,aQ [97,769,98]] .emp 0 (fun d1 h1 _=>gk h1 100000 d1 (aQ [2,1,2,2]))=true)
theorem ED (a:Bool):@Pu gtR Tryz.prog 17 [dbD smp,i64 1,aQ (if a then [97,769,98] else [13,10,97])] (.tup [bQ [⟨0,2⟩,⟨2,3⟩],i64 0]):=by
 letI:=gtR;have hd:=u6 (d:=smp) (k:=1) (t:=t1) (.inl rfl) Cj xC zy;have ha:=smp_a a;have e:rE=d7 t1:=by rw[t1,←rC]
 rw[e] at ha;exact vD hd (yI ha (by decide))
theorem ol {l:List Int}(h:l.length≤1000):@Pu gtR Tryz.prog 16 [aQ l,aQ l] (boo true):=by
 have:=@yM gtR l l (by omega)
 rwa [decide_eq_true rfl] at this
theorem kg:@Pu gtR Tryz.prog 13 [] (boo true):=by
 letI:=gtR;have hdb:aH (dbD smp)=true:=by kernel_rfl
 have hs:=smp_c;have hR:Pu Tryz.prog 22 [dbD smp,aQ [97,769,98]] (.tup [aQ [98,97,769],i64 0]):=nY (ED true) ⟨rfl,by decide,rfl,by decide,rfl⟩ (by decide);have hT:Pu Tryz.prog 20 [dbD smp,aQ [13,10,97],i64 1] (.tup [aQ [13,10],i64 0]):=i5 (ED false) ⟨rfl,by decide,rfl,by decide,rfl⟩ (by decide) (by decide);have hB:Pu Tryz.prog 14 [dbD smp,i64 5,aU] (.tup [aU,i64 8]):=x7 rfl (by decide) (r4 xC (by decide));have h1:=ol (l:=[98,97,769]) (by decide);have h2:=ol (l:=[13,10]) (by decide);refine Pu.of_v aA T0 Tryz.func13 rfl rfl rfl ?_
 repeat' ((conv=>whnf)<;>(first|refine aE.go aA T0 ?_|exact kQ|(refine Br.mk (fun _=>?_) (fun _=>?_)<;>(try(exfalso;omega)))|refine stq ?_|refine Cll.pu (hs) ?_|refine aW.pu (hs) ?_|refine Cll.pu (hB) ?_|refine aW.pu (hB) ?_|refine Cll.emb (hR ⟨0,[]⟩) [] [2] (.tup [aQ [98,97,769],i64 0]) [] [] rfl (by(repeat(first|exact Rds.nil|refine Rds.cons (by first|exact eR rfl rfl rfl rfl|exact Rd.eqd rfl hdb|exact rdA|fail) ?_|fail));(first|done|fail)) (by(repeat(first|exact Bxs.nil|refine Bxs.cons rfl rfl rfl (by first|exact rbB|exact Rb.cells (by(repeat(first|exact Rds.nil|refine Rds.cons (by first|exact eR rfl rfl rfl rfl|exact Rd.eqd rfl hdb|exact rdA|fail) ?_|fail));(first|done|fail)) rfl|exact rbC|fail) ?_|fail));(first|done|fail)) (by first|exact eR rfl rfl rfl rfl|exact Rd.eqd rfl hdb|exact rdA|fail) (by(repeat(first|exact Bxs.nil|refine Bxs.cons rfl rfl rfl (by first|exact rbB|exact Rb.cells (by(repeat(first|exact Rds.nil|refine Rds.cons (by first|exact eR rfl rfl rfl rfl|exact Rd.eqd rfl hdb|exact rdA|fail) ?_|fail));(first|done|fail)) rfl|exact rbC|fail) ?_|fail));(first|done|fail)) (by(repeat(first|exact ap.nil|refine ap.cons rfl rfl rfl ?_|fail));(first|done|fail)) ?_|refine Cll.emb (hT ⟨0,[]⟩) [] [10] (.tup [aQ [13,10],i64 0]) [] [] rfl (by(repeat(first|exact Rds.nil|refine Rds.cons (by first|exact eR rfl rfl rfl rfl|exact Rd.eqd rfl hdb|exact rdA|fail) ?_|fail));(first|done|fail)) (by(repeat(first|exact Bxs.nil|refine Bxs.cons rfl rfl rfl (by first|exact rbB|exact Rb.cells (by(repeat(first|exact Rds.nil|refine Rds.cons (by first|exact eR rfl rfl rfl rfl|exact Rd.eqd rfl hdb|exact rdA|fail) ?_|fail));(first|done|fail)) rfl|exact rbC|fail) ?_|fail));(first|done|fail)) (by first|exact eR rfl rfl rfl rfl|exact Rd.eqd rfl hdb|exact rdA|fail) (by(repeat(first|exact Bxs.nil|refine Bxs.cons rfl rfl rfl (by first|exact rbB|exact Rb.cells (by(repeat(first|exact Rds.nil|refine Rds.cons (by first|exact eR rfl rfl rfl rfl|exact Rd.eqd rfl hdb|exact rdA|fail) ?_|fail));(first|done|fail)) rfl|exact rbC|fail) ?_|fail));(first|done|fail)) (by(repeat(first|exact ap.nil|refine ap.cons rfl rfl rfl ?_|fail));(first|done|fail)) ?_|refine Cll.emb (h1 ⟨0,[]⟩) [] [25] (boo true) [] [] rfl (by(repeat(first|exact Rds.nil|refine Rds.cons (by first|exact eR rfl rfl rfl rfl|exact rdA|fail) ?_|fail));(first|done|fail)) (by(repeat(first|exact Bxs.nil|refine Bxs.cons rfl rfl rfl (by first|exact rbB|exact Rb.cells (by(repeat(first|exact Rds.nil|refine Rds.cons (by first|exact eR rfl rfl rfl rfl|exact rdA|fail) ?_|fail));(first|done|fail)) rfl|exact rbC|fail) ?_|fail));(first|done|fail)) (by first|exact eR rfl rfl rfl rfl|exact rdA|fail) (by(repeat(first|exact Bxs.nil|refine Bxs.cons rfl rfl rfl (by first|exact rbB|exact Rb.cells (by(repeat(first|exact Rds.nil|refine Rds.cons (by first|exact eR rfl rfl rfl rfl|exact rdA|fail) ?_|fail));(first|done|fail)) rfl|exact rbC|fail) ?_|fail));(first|done|fail)) (by(repeat(first|exact ap.nil|refine ap.cons rfl rfl rfl ?_|fail));(first|done|fail)) ?_|refine Cll.emb (h2 ⟨0,[]⟩) [] [33] (boo true) [] [] rfl (by(repeat(first|exact Rds.nil|refine Rds.cons (by first|exact eR rfl rfl rfl rfl|exact rdA|fail) ?_|fail));(first|done|fail)) (by(repeat(first|exact Bxs.nil|refine Bxs.cons rfl rfl rfl (by first|exact rbB|exact Rb.cells (by(repeat(first|exact Rds.nil|refine Rds.cons (by first|exact eR rfl rfl rfl rfl|exact rdA|fail) ?_|fail));(first|done|fail)) rfl|exact rbC|fail) ?_|fail));(first|done|fail)) (by first|exact eR rfl rfl rfl rfl|exact rdA|fail) (by(repeat(first|exact Bxs.nil|refine Bxs.cons rfl rfl rfl (by first|exact rbB|exact Rb.cells (by(repeat(first|exact Rds.nil|refine Rds.cons (by first|exact eR rfl rfl rfl rfl|exact rdA|fail) ?_|fail));(first|done|fail)) rfl|exact rbC|fail) ?_|fail));(first|done|fail)) (by(repeat(first|exact ap.nil|refine ap.cons rfl rfl rfl ?_|fail));(first|done|fail)) ?_|fail))
 all_goals(conv=>whnf)
 exact aN.same rfl rfl
end
section
open Go Go.Am Classical
set_option maxRecDepth 100000
def pcs (text:List Int) (P:List Rng):List (List Int):=P.map fun r=>pce text r.lo r.hi
theorem ls (text:List Int):∀ P:List Rng,eU text P=(pcs text P).reverse.flatten
 | []=>rfl
 | r::P=>by simp only[eU,ls text P,pcs,List.map_cons,List.reverse_cons,List.flatten_append,List.flatten_cons,List.flatten_nil,List.append_nil]
theorem oa {text:List Int}:∀ {P:List Rng}{s e:Int},Chn s P e→0≤s→e≤text.length→(pcs text P).flatten=(text.drop s.toNat).take (e-s).toNat
 | [],s,e,h,_,_=>by rw[show s=e from h];simp[pcs]
 | r::P,s,e,h,h0,h1=>by
  have hs:=h.2.1;have hl:=h.1;have he:=qR h.2.2;have ih:=oa (text:=text) h.2.2 (by omega) h1;have e1:pcs text (r::P)=pce text r.lo r.hi::pcs text P:=rfl;rw[e1,List.flatten_cons,ih,hl,pce,show(e-s).toNat=(r.hi-s).toNat+(e-r.hi).toNat by omega,List.take_add,List.drop_drop,show s.toNat+(r.hi-s).toNat=r.hi.toNat by omega]
theorem vt {text:List Int}{P:List Rng}(h:Chn 0 P text.length) (x:Int):(eU text P).count x=text.count x:=by
 have e:=oa (text:=text) h (Int.le_refl _) (Int.le_refl _);have e2:(pcs text P).flatten=text:=by rw[e];simp
 rw[ls]
 conv=>rhs;rw[←e2]
 rw[List.count_flatten,List.count_flatten,List.map_reverse,List.sum_reverse]
theorem Ah {text:List Int}{P:List Rng}(h:Chn 0 P text.length){i:Nat}(hi:i<P.length):((pcs text P)[i]'(by simpa [pcs] using hi)).length=(P[i].hi-P[i].lo).toNat:=by
 have h1:=gu hi h;have h2:=(cQ i h).1;simp only[pcs,List.getElem_map,List.length_take,List.length_drop];omega
theorem rn:∀ {A B:List (List Int)},A.flatten=B.flatten→A.map List.length=B.map List.length→A=B
 | [],[],_,_=>rfl
 | [],_::_,_,h=>by simp at h
 | _::_,[],_,h=>by simp at h
 | a::A,b::B,h1,h2=>by
  simp only[List.map_cons,List.cons.injEq] at h2;rw[List.flatten_cons,List.flatten_cons] at h1;obtain⟨rfl,h3⟩:=List.append_inj h1 h2.1;rw[rn h3 h2.2]
theorem yW {text:List Int}{P Q:List Rng}(hP:Chn 0 P text.length) (hQ:Chn 0 Q (eU text P).length) (hl:P.length=Q.length) (hs:∀ i (h:i<P.length),P[i].hi-P[i].lo=(Q[Q.length-1-i]'(by omega)).hi-(Q[Q.length-1-i]'(by omega)).lo):eU (eU text P) Q=text:=by
 have e1:(pcs text P).flatten=text:=by rw[oa hP (Int.le_refl _) (Int.le_refl _)];simp
 have e2:(pcs (eU text P) Q).flatten=eU text P:=by rw[oa hQ (Int.le_refl _) (Int.le_refl _)];simp
 have e3:pcs (eU text P) Q=(pcs text P).reverse:=by
  refine rn (by rw[e2,←ls]) (List.ext_getElem (by simp[pcs,hl]) fun i h1 h2=>?_);have hi:i<Q.length:=by simpa [pcs] using h1
  have hp:P.length-1-i<P.length:=by omega
  have:=hs (P.length-1-i) hp
  simp only[List.getElem_map,List.getElem_reverse];rw[Ah hQ hi];have e4:(pcs text P).length-1-i=P.length-1-i:=by simp[pcs]
  simp only[e4];rw[Ah hP hp,this];simp only[show Q.length-1-(P.length-1-i)=i by omega]
 rw[ls,e3,List.reverse_reverse,e1]
theorem Dq {l:List Int}{k:Nat}{x:Int}(h:k<l.length) (e:l[k]=x):(l.take (k+1)).count x=(l.take k).count x+1:=by
 rw[List.take_add_one,List.getElem?_eq_getElem h,List.count_append];simp[e]
theorem cnt_no {l:List Int}{k:Nat}{x:Int}(h:k<l.length) (e:¬l[k]=x):(l.take (k+1)).count x=(l.take k).count x:=by
 rw[List.take_add_one,List.getElem?_eq_getElem h,List.count_append];simp[e]
theorem xu {l:List Int}{x:Int}(hl:l.length≤1000):@Pu gtR Tryz.prog 25 [aQ l,i64 x] (i64 (l.count x)):=by
 letI:=gtR;refine Pu.of_v aA T0 Tryz.func25 rfl rfl (by simp[aH,aC,aD]) ?_;repeat' ((conv=>whnf)<;>(first|refine aE.go aA T0 ?_|exact kQ|(refine Br.mk (fun _=>?_) (fun _=>?_)<;>(try(exfalso;omega)))|refine stq ?_))
 refine aT.by2 aA T0 (fun(k:Nat) (c:Nat)=>⟨tmp 22 [(0,aQ l),(1,i64 x),(5,i64 (c:Int)),(6,i64 (k:Int))],⟨0,[]⟩⟩)
  (fun k c=>k≤l.length∧c=(l.take k).count x) (fun k _=>l.length-k) 0 0 ⟨by omega,by simp⟩ ?_ ?_
 ·exact Lf.of2 [] [] enA bxA rfl rfl
 intro k c ⟨h3,h4⟩;have hc:c≤1000:=by have:=List.count_le_length (a:=x) (l:=l.take k);simp only[List.length_take] at this;omega
 repeat' ((conv=>whnf)<;>(first|refine aE.go aA T0 ?_|exact kQ|(refine Br.mk (fun _=>?_) (fun _=>?_)<;>(try(exfalso;omega)))|refine stq ?_))
 all_goals(conv=>whnf)
 all_goals first
  | (refine⟨k+1,c+1,⟨by omega,by rw[Dq (by omega) (by assumption)];omega⟩,by omega,?_⟩
     exact Lf.of2 [] [] enA bxA rfl rfl)
  | (refine⟨k+1,c,⟨by omega,by rw[cnt_no (by omega) (by assumption)];omega⟩,by omega,?_⟩
     exact Lf.of2 [] [] enA bxA rfl rfl)
  | (rw[h4,kE (by omega)]
     exact aN.same rfl rfl)
noncomputable abbrev gP (d:Db) (text:List Int):List Rng:=fC (prop d 3) t1 text
theorem Good.p1 {d:Db}(h:Good d){text:List Int}(hx:text.length≤1000):@Pu gtR Tryz.prog 17 [dbD d,i64 1,aQ text] (.tup [bQ (gP d text),i64 0]):=h.prt (k:=1) (.inl rfl) tv1.2 zy hx
theorem Dx {d:Db}{k:Int}{x:D}(ho:d.ok) (hs:SmD d) (hv:¬DbV d) (hx:aH x=true):@Pu gtR Tryz.prog 17 [dbD d,i64 k,x] (.tup [aU,i64 11]):=tR hx (by decide) (jk ho hs hv)
theorem tD (d:Db) (text:List Int):Chn 0 (gP d text) text.length:=ly tv1.1
theorem twi_c {d:Db}{text:List Int}(ho:d.ok) (hx:text.length≤9223372036854775807):@Pu gtR Tryz.prog 9 [dbD d,aQ text] (boo true):=by
 letI:=gtR;have hal:=kg;by_cases hf:SmD d∧text.length≤12
 ·obtain⟨hs,h12⟩:=hf;have hF:=mP (text:=text) ho hs h12;by_cases hv:DbV d
  ·have g:Good d:=⟨ho,hs,hv⟩;have hP:=g.p1 (text:=text) (by omega);have hc:=tD d text;have hR:=nY hP hc (by omega);have hRl:=g9 (text:=text) hc (Int.le_refl _) (Int.le_refl _);have hcnt:=vt hc;have hpl:=fR hc;generalize gP d text=P at *;generalize hRe:eU text P=R at *;have hQ:=g.p1 (text:=R) (by omega);have hc2:=tD d R;have hR2:=nY hQ hc2 (by omega);have hBl:=g9 (text:=R) hc2 (Int.le_refl _) (Int.le_refl _);have hql:=fR hc2;generalize gP d R=Q at *
   have hlaw:P.length=Q.length→(∀ i (h:i<P.length) (h2:Q.length-1-i<Q.length),P[i].hi-P[i].lo=Q[Q.length-1-i].hi-Q[Q.length-1-i].lo)→eU R Q=text:=fun h1 h2=>by
    have:=yW hc (by rw[hRe];exact hc2) h1 (fun i h=>h2 i h (by omega))
    rwa [hRe] at this
   generalize eU R Q=B at *;have hE:Pu Tryz.prog 16 [aQ B,aQ text] (boo (decide (B=text))):=yM (by omega);refine Pu.of_v aA T0 Tryz.func9 rfl rfl (by simp[aH,aC,aG,aJ,aP,aO,aD]) ?_;repeat' ((conv=>whnf)<;>(first|refine aE.go aA T0 ?_|exact kQ|(refine Br.mk (fun _=>?_) (fun _=>?_)<;>(try(exfalso;omega)))|refine stq ?_|refine Cll.pu (hF) ?_|refine aW.pu (hF) ?_|refine Cll.pu (hR) ?_|refine aW.pu (hR) ?_|refine Cll.pu (hR2) ?_|refine aW.pu (hR2) ?_|fail))
   refine aT.by aA T0 (fun k:Nat=>⟨tmp 139 [(1,aQ text),(2,.ptr 0 0),(5,aQ R),(7,aQ B),(9,i64 (k:Int))],⟨1,[(0,.cells (dbC d) true)]⟩⟩)
    (fun k=>k≤text.length) (fun k=>text.length-k) 0 (by omega) ?_ ?_
   ·exact Lf.of2 [(0,_)] [] enA (by repeat(first|exact Bxs.nil|refine Bxs.cons rfl rfl rfl (by first|exact Rb.cells (Rds.same (aa d)) rfl|exact rbB|exact Rb.cells bk rfl|exact rbC|fail) ?_)) rfl rfl
   intro k h3;by_cases hk:k<text.length
   ·have h1:=xu (l:=R) (x:=text[k]) (by omega);have h2:=xu (l:=text) (x:=text[k]) (by omega);have h5:=hcnt text[k];repeat' ((conv=>whnf)<;>(first|refine aE.go aA T0 ?_|exact kQ|(refine Br.mk (fun _=>?_) (fun _=>?_)<;>(try(exfalso;omega)))|refine stq ?_|refine Cll.pu (h1) ?_|refine aW.pu (h1) ?_|refine Cll.pu (h2) ?_|refine aW.pu (h2) ?_|refine Chk.mk (fun _=>congrArg (fun n:Nat=>i64 (n:Int)) h5) ?_))
    all_goals(conv=>whnf)
    refine⟨k+1,by omega,by omega,?_⟩;exact Lf.of2 [(0,_)] [] enA (by repeat(first|exact Bxs.nil|refine Bxs.cons rfl rfl rfl (by first|exact Rb.cells (Rds.same (aa d)) rfl|exact rbB|exact Rb.cells bk rfl|exact rbC|fail) ?_)) rfl rfl
   by_cases hpq:P.length=Q.length
   ·repeat' ((conv=>whnf)<;>(first|refine aE.go aA T0 ?_|exact kQ|(refine Br.mk (fun _=>?_) (fun _=>?_)<;>(try(exfalso;omega)))|refine stq ?_|refine Cll.pu (hP) ?_|refine aW.pu (hP) ?_|refine Cll.pu (hQ) ?_|refine aW.pu (hQ) ?_|fail))
    refine aT.by2 aA T0 (fun(k:Nat) (s:Bool)=>⟨tmp 139 [(1,aQ text),(7,aQ B),(10,bQ P),(12,bQ Q),(14,boo s),(15,i64 (k:Int))],⟨0,[]⟩⟩)
     (fun k s=>k≤P.length∧(s=true→∀ i (h:i<P.length) (h2:Q.length-1-i<Q.length),i<k→P[i].hi-P[i].lo=Q[Q.length-1-i].hi-Q[Q.length-1-i].lo)) (fun k _=>P.length-k) 0 true ⟨by omega,fun _ _ _ _ h=>by omega⟩ ?_ ?_
    ·exact Lf.of2 [] [] enA bxA rfl rfl
    intro k s ⟨h3,h4⟩;cases s with
    | false=>
     repeat' ((conv=>whnf)<;>(first|refine aE.go aA T0 ?_|exact kQ|(refine Br.mk (fun _=>?_) (fun _=>?_)<;>(try(exfalso;omega)))|refine stq ?_|refine Cll.pu (hal) ?_|refine aW.pu (hal) ?_))
     all_goals(conv=>whnf)
     exact aN.same rfl rfl
    | true=>
     by_cases hk:k<P.length
     ·have hq:Q.length-1-k<Q.length:=by omega
      have a1:=gu hk hc;have a2:=gu hq hc2;have a3:=(cQ k hc).1;have a4:=(cQ (Q.length-1-k) hc2).1;repeat' ((conv=>whnf)<;>(first|refine Idx.atS (c:=cO) (fun _=>rfl) (l:=Q) (Q.length-1-k) (by omega) (by omega) ?_|refine aE.go aA T0 ?_|exact kQ|(refine Br.mk (fun _=>?_) (fun _=>?_)<;>(try(exfalso;omega)))|refine stq ?_))
      all_goals(conv=>whnf)
      all_goals first
       | (refine⟨k+1,true,⟨by omega,fun _ i h h2 hi=>(by by_cases h5:i<k;exact h4 rfl i h h2 h5;obtain rfl:i=k:=(by omega);assumption)⟩,by omega,?_⟩
          exact Lf.of2 [] [] enA bxA rfl rfl)
       | (refine⟨k+1,false,⟨by omega,fun h=>by cases h⟩,by omega,?_⟩
          exact Lf.of2 [] [] enA bxA rfl rfl)
     ·have hb:=hlaw hpq (fun i h h2=>h4 rfl i h h2 (by omega));rw[decide_eq_true hb] at hE;repeat' ((conv=>whnf)<;>(first|refine aE.go aA T0 ?_|exact kQ|(refine Br.mk (fun _=>?_) (fun _=>?_)<;>(try(exfalso;omega)))|refine stq ?_|refine Cll.pu (hE) ?_|refine aW.pu (hE) ?_|refine Cll.pu (hal) ?_|refine aW.pu (hal) ?_))
      all_goals(conv=>whnf)
      exact aN.same rfl rfl
   ·repeat' ((conv=>whnf)<;>(first|refine aE.go aA T0 ?_|exact kQ|(refine Br.mk (fun _=>?_) (fun _=>?_)<;>(try(exfalso;omega)))|refine stq ?_|refine Cll.pu (hP) ?_|refine aW.pu (hP) ?_|refine Cll.pu (hQ) ?_|refine aW.pu (hQ) ?_|fail))
    refine aT.by aA T0 (fun _:Nat=>⟨tmp 139 [(1,aQ text),(7,aQ B),(14,boo false)],⟨0,[]⟩⟩) (fun _=>True) (fun _=>0) 0 trivial ?_ ?_
    ·exact Lf.of2 [] [] enA bxA rfl rfl
    intro k _;repeat' ((conv=>whnf)<;>(first|refine aE.go aA T0 ?_|exact kQ|(refine Br.mk (fun _=>?_) (fun _=>?_)<;>(try(exfalso;omega)))|refine stq ?_|refine Cll.pu (hal) ?_|refine aW.pu (hal) ?_))
    all_goals(conv=>whnf)
    exact aN.same rfl rfl
  ·have hP:=Dx (k:=1) (x:=aQ text) ho hs hv (aD _);have hN:=Dx (k:=1) (x:=aU) ho hs hv rfl;have hR:=qf (.inl ⟨text,rfl⟩) (by decide) hP;have hR2:=qf (x:=aU) (.inr rfl) (by decide) hN;refine Pu.of_v aA T0 Tryz.func9 rfl rfl (by simp[aH,aC,aG,aJ,aP,aO,aD]) ?_;repeat' ((conv=>whnf)<;>(first|refine aE.go aA T0 ?_|exact kQ|(refine Br.mk (fun _=>?_) (fun _=>?_)<;>(try(exfalso;omega)))|refine stq ?_|refine Cll.pu (hF) ?_|refine aW.pu (hF) ?_|refine Cll.pu (hR) ?_|refine aW.pu (hR) ?_|refine Cll.pu (hR2) ?_|refine aW.pu (hR2) ?_|refine Cll.pu (hal) ?_|refine aW.pu (hal) ?_))
   all_goals(conv=>whnf)
   exact aN.same rfl rfl
 ·have hF:=tG (text:=text) ho hf;refine Pu.of_v aA T0 Tryz.func9 rfl rfl (by simp[aH,aC,aG,aJ,aP,aO,aD]) ?_;repeat' ((conv=>whnf)<;>(first|refine aE.go aA T0 ?_|exact kQ|(refine Br.mk (fun _=>?_) (fun _=>?_)<;>(try(exfalso;omega)))|refine stq ?_|refine Cll.pu (hF) ?_|refine aW.pu (hF) ?_|refine Cll.pu (hal) ?_|refine aW.pu (hal) ?_))
  all_goals(conv=>whnf)
  exact aN.same rfl rfl
end
end Go.Proofs.YtjpgpihbhicinaaGreatDoor
