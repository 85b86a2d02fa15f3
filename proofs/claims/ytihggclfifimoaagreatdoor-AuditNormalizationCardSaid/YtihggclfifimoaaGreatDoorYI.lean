/-
  Contracts over data: the quick check of a text; what it says is right.
-/
import Derived.Test.YtihggclfifimoaaGreatDoorYH
set_option linter.unusedSectionVars false
namespace Go.Proofs.YtihggclfifimoaaGreatDoor
set_option maxHeartbeats 4000000
set_option maxRecDepth 100000
section
open Go Go.Am Classical
set_option linter.unusedVariables false
def kz (n:Nm) (s:List Rng):Prop:=∀ x,bM s x=true↔∃ a,jn n a x≠none
noncomputable def qcT (n:Nm) (f:Int) (s:List Rng) (t:List Int):Int:=wsL 1 [if can (aJ n.cl) t=t then 1 else 2,wsL 1 ((c9 t).map (dj n f s))]
section
variable {n:Nm}(hG:NmG n)
include hG
theorem yg {c:Int}(h:¬(0<=c∧c<=1114111)) (k:Bool):bA (once n k) c=[c]:=by
 refine(lY (gg hG k)).none ?_;have hk0:=aj c;unfold once;rw[if_neg om];cases hf:fnd n.dc c with
 | none=>rfl
 | some m=>
  obtain⟨h1,h2⟩:=dv hf;have:=(fj hG h1).1
  unfold cpQ at this;omega
theorem zv {c:Int}(h:¬(0<=c∧c<=1114111)):aJ n.cl c=0:=nJ λs hs hc=>by
 obtain⟨i,hi,rfl⟩:=List.getElem_of_mem hs;have h1:=(hG.v.cl i hi).1;omega
theorem out_jn {c:Int}(h:¬(0<=c∧c<=1114111)) (a:Int):jn n a c=none:=by
 cases hj:jn n a c with
 | none=>rfl
 | some w=>
  rcases iq hG hj with h1|⟨_,m,hm,hc,rfl⟩
  ·have h2:=(ix h1).2.2.1;have:=aj c
   omega
  ·have h3:=(fj hG hm).2 1 (by rw[hc.2.1];simp);simp only[hc.2.1] at h3;unfold cpQ at h3;simp at h3;omega
theorem Fl {c:Int}(h:¬(0<=c∧c<=1114111)) (f:Int):bE n f [c]=[c]:=by
 have e:dcm (aJ n.cl) (bA (once n (kF f))) [c]=[c]:=by simp[dcm,exs,yg hG h,can,bw]
 unfold bE;split
 ·rw[gi,e];simp[ft,cz,jns,zv hG h]
 ·exact e
theorem qc_yes {f:Int}{s:List Rng}{t:List Int}(hs:cF f=true->kz n s) (h:qcT n f s t=1):bE n f t=t:=by
 have hN:=lh hG (kF f);unfold qcT at h
 have h1:can (aJ n.cl) t=t:=by
  by_cases hc:can (aJ n.cl) t=t
  ·exact hc
  ·rw[if_neg hc] at h;simp[wsL] at h
 rw[if_pos h1] at h
 have h2:wsL 1 ((c9 t).map (dj n f s))=1:=by
  rcases tV (a:=1) (l:=(c9 t).map (dj n f s)) with h3|h3|h3
  ·exact h3
  ·rw[h3] at h;simp[wsL] at h
  ·rw[h3] at h;simp[wsL] at h
 have h3:∀ c∈t,bE n f [c]=[c]∧(cF f=true->∀ x es,can (aJ n.cl) (bA (once n (kF f)) c)=x::es->∀ a,jn n a x=none):=λc hc=>by
  by_cases ho:0<=c∧c<=1114111
  ·have hm:c∈c9 t:=((mJ t [] si si).2.2.1 c).2 (.inr ⟨hc,ho⟩)
   have hr:dj n f s c≠2∧dj n f s c≠3:=by
    have hmm:dj n f s c∈(c9 t).map (dj n f s):=List.mem_map.2 ⟨c,hm,rfl⟩;unfold wsL at h2;constructor
    ·intro e;rw[e] at hmm;rw[if_pos (.inr hmm)] at h2;cases h2
    ·intro e;rw[e] at hmm;split at h2
     ·cases h2
     ·rw[if_pos (.inr hmm)] at h2;cases h2
   unfold dj at hr;by_cases hfr:bE n f [c]=[c]
   ·rw[if_pos hfr] at hr;refine⟨hfr,λhcf x es hx a=>?_⟩;have hhas:¬bM s ((d7 n (kF f) [c]).getD 0 0)=true:=λe=>by rw[if_pos e] at hr;exact hr.2 rfl
    have e:d7 n (kF f) [c]=x::es:=by
     show can _ (exs _ [c])=_;simp only[exs,List.flatMap_cons,List.flatMap_nil,List.append_nil];exact hx
    rw[e] at hhas;cases hj:jn n a x with
    | none=>rfl
    | some w=>exact absurd ((hs hcf x).2 ⟨a,by rw[hj];simp⟩) hhas
   ·rw[if_neg hfr] at hr;exact absurd rfl hr.1
  ·refine⟨Fl hG ho f,λ_ x es hx a=>?_⟩;rw[yg hG ho] at hx;simp[can,bw] at hx;rw[<-hx.1];exact out_jn hG ho a
 unfold bE;have ho:=rU.1 h1;split
 ·rename_i hcf
  exact Ge hN ho λc hc=>by
   obtain⟨k1,k2⟩:=h3 c hc;unfold bE at k1;rw[if_pos hcf] at k1;exact⟨k1,k2 hcf⟩
 ·rename_i hcf
  exact Gb ho (λc hc=>by
   have k1:=(h3 c hc).1;unfold bE at k1;rw[if_neg hcf] at k1
   exact k1) hN.pos
theorem qc_no {f:Int}{s:List Rng}{t:List Int}(h:qcT n f s t=2):bE n f t≠t:=λe=>by
 have hN:=lh hG (kF f)
 have h1:aq (aJ n.cl) t∧∀ c∈t,bE n f [c]=[c]:=by
  unfold bE at e ⊢;split at e
  ·rename_i hcf;simp only[if_pos hcf];exact cmp_no hN e
  ·rename_i hcf;simp only[if_neg hcf];exact dcm_no hN e
 unfold qcT at h;rw[if_pos (rU.2 h1.1)] at h
 have h2:wsL 1 ((c9 t).map (dj n f s))=2:=by
  rcases tV (a:=1) (l:=(c9 t).map (dj n f s)) with h3|h3|h3
  ·rw[h3] at h;simp[wsL] at h
  ·exact h3
  ·rw[h3] at h;simp[wsL] at h
 have h3:(2:Int)∈(c9 t).map (dj n f s):=by
  unfold wsL at h2;split at h2
  ·rename_i h4;rcases h4 with h4|h4
   ·cases h4
   ·exact h4
  ·split at h2<;>cases h2
 obtain⟨c,hc,hr⟩:=List.mem_map.1 h3
 have hct:c∈t:=by
  rcases((mJ t [] si si).2.2.1 c).1 hc with h5|h5
  ·simp at h5
  ·exact h5.1
 unfold dj at hr;rw[if_pos (h1.2 c hct)] at hr;split at hr<;>cases hr
end
section
variable {n n':Nm}{f:Int}{s:List Rng}{t:List Int}
theorem C6 (hN:eI n n) (ht:t.length<=1000):Pu Tryz.prog 74 [bC n.cl,aF t] (boo (decide (can (aJ n.cl) t=t))):=by
 have huc:fG n.cl=n.cl:=if_pos hN.g.cls;have h0:=sV (l:=n.cl) (t:=t) hN.ok.cl om;rw[huc] at h0;have hl:=(cj (cls:=aJ n.cl) t).length_eq;have h1:=tC (a:=can (aJ n.cl) t) (b:=t) om om;refine pv Tryz.func74 ?_;repeat' ((conv=>whnf);first|exact kQ|(refine bk ?_ ?_<;>intro _<;>try(exfalso;omega))|refine stq ?_|refine cp h0 ?_|refine cp h1 ?_|fail)
 all_goals(conv=>whnf)
 all_goals exact aE.v rfl
end
end
section
open Go Go.Am Classical
set_option linter.unusedVariables false
section
variable {n n':Nm}{f:Int}{s:List Rng}{t:List Int}
theorem vg (h:s.length<=1000):(bW f s).length<=1000:=by
 unfold bW;split
 ·exact h
 ·simp
theorem DJ (hf:isF f) (hN:eI n n') (hS:Pu Tryz.prog 150 [nmD n'] (fJ s)) (hs:s.length<=1000) (ht:t.length<=100):Pu Tryz.prog 22 [nmD n,i64 f,aF t] (i64 (qcT n' f (bW f s) t)):=by
 have h1:=sQ hf hN hS;have hN':=qm hN;have h2:=C6 (t:=t) hN' om;have h3:=all2_c (s:=bW f s) (t:=t) hf hN' (vg hs) ht;have hnb:=je n' f (bW f s);unfold qcT;refine Pu.of_v aA T0 Tryz.func22 rfl rfl (aD (aQ n) (aD rfl (aD (aC _) rfl))) ?_;by_cases hc:can (aJ n'.cl) t=t
 ·rw[decide_eq_true hc] at h2;rw[if_pos hc];repeat' ((conv=>whnf);first|exact kQ|(refine bk ?_ ?_<;>intro _<;>try(exfalso;omega))|refine stq ?_|refine cp h1 ?_|refine cp h2 ?_|refine cp h3 ?_|refine Cll.borrow (.cons (Rd.frz rfl rfl (kD rfl) (Rds.same rfl)) .nil) (tW (l:=[_,_]) si) ?_|fail)
  all_goals(conv=>whnf)
  exact aE.int rfl
 ·rw[decide_eq_false hc] at h2;rw[if_neg hc];repeat' ((conv=>whnf);first|exact kQ|(refine bk ?_ ?_<;>intro _<;>try(exfalso;omega))|refine stq ?_|refine cp h1 ?_|refine cp h2 ?_|refine cp h3 ?_|refine Cll.borrow (.cons (Rd.frz rfl rfl (kD rfl) (Rds.same rfl)) .nil) (tW (l:=[_,_]) si) ?_|fail)
  all_goals(conv=>whnf)
  exact aE.int rfl
end
end
section
open Go Go.Am Classical
set_option linter.unusedVariables false
section
variable {n:Nm}(hG:NmG n)
include hG
theorem Bz (f:Int) (t:List Int):bE n f (bE n f t)=bE n f t:=by
 unfold bE;split
 ·exact Gg (lh hG _) t
 ·exact ug (lh hG _) t
theorem frm_kc {f:Int}(hf:isF f) (t:List Int):bE n 3 (bE n f t)=bE n 3 t:=by
 have key:dcm (aJ n.cl) (bA (once n true)) (bE n f t)=dcm (aJ n.cl) (bA (once n true)) t:=by
  unfold bE;rcases hf with rfl|rfl|rfl|rfl
  ·exact nW (Dj hG) t
  ·exact xN (Dj hG) t
  ·exact nW (Di hG true) t
  ·exact ug (lh hG true) t
 have e:∀ u,bE n 3 u=ft (aJ n.cl) (jn n) (dcm (aJ n.cl) (bA (once n true)) u):=λu=>rfl
 rw[e,e,key]
theorem GO {f c:Int}(x y:List Int) (hc:∃ b es,d7 n (kF f) [c]=b::es∧aJ n.cl b=0∧(cF f=true->∀ a,jn n a b=none)):bE n f (x++c::y)=bE n f x++bE n f (c::y):=by
 obtain⟨b,es,h1,h2,h3⟩:=hc
 have h1':can (aJ n.cl) (bA (once n (kF f)) c)=b::es:=by
  rw[<-h1];show _=can _ (exs _ [c]);simp[exs]
 have hp:∀ c,0<=aJ n.cl c:=hG.v.cls_pos;unfold bE;split
 ·rename_i hcf
  exact Gf hp ⟨b,es,h1',h2⟩ (λb' es' h a=>by
   rw[h1'] at h;injection h with h4 h5;rw[<-h4];exact h3 hcf a) x y
 ·exact(AX hp ⟨b,es,h1',h2⟩ x y).1
end
theorem Ew {q:Int}{b:Bool}(hq:q=1∨q=2∨q=3) (h1:q=1->b=true) (h2:q=2->b=false):Pu Tryz.prog 21 [i64 q,boo b] (boo true):=by
 refine pv Tryz.func21 ?_;rcases hq with rfl|rfl|rfl
 ·have:=h1 rfl;subst this
  repeat' ((conv=>whnf);first|exact kQ|(refine bk ?_ ?_<;>intro _<;>try(exfalso;omega))|refine stq ?_)
  all_goals(conv=>whnf)
  all_goals exact aE.v rfl
 ·have:=h2 rfl;subst this
  repeat' ((conv=>whnf);first|exact kQ|(refine bk ?_ ?_<;>intro _<;>try(exfalso;omega))|refine stq ?_)
  all_goals(conv=>whnf)
  all_goals exact aE.v rfl
 ·repeat' ((conv=>whnf);first|exact kQ|(refine bk ?_ ?_<;>intro _<;>try(exfalso;omega))|refine stq ?_)
  all_goals(conv=>whnf)
  all_goals exact aE.v rfl
section
variable {n n':Nm}{f:Int}{s:List Rng}{t:List Int}
theorem pI (n:Nm):aL (.iptr (nmC n))=true:=ce n
theorem lX (t:List Int):aL (.iptr [aF t])=true:=by simp[aL,aK,aC]
theorem args3i {F:List Int->D}{x1 x2 y1 y2:D}{a b:List Int}(h:[x1,x2,aF b]=[y1,y2,aF a]):F a=F b:=by
 have e:aF b=aF a:=by injection h with _ h;injection h with _ h;injection h
 have inj:∀ {a b:List Int},a.map i64=b.map i64->a=b:=by
  intro a
  induction a with
  | nil=>intro b h;cases b with|nil=>rfl|cons _ _=>cases h
  | cons x a ih=>
   intro b h;cases b with
   | nil=>cases h
   | cons y b=>
    injection h with h1 h2
    injection h1 with h1
    injection h1 with _ h1
    rw[h1,ih h2]
 rw[inj (by injection e:b.map i64=a.map i64)]
theorem n1_c (hf:isF f) (hN:eI n n') (ht:t.length<=16):Pu Tryz.prog 17 [.iptr (nmC n),.iptr [i64 f],.iptr [aF (bE n' f t)]] (boo true):=by
 have hl:=el hN.g f t;have h1:=kl (t:=bE n' f t) hf hN om;rw[Bz hN.g] at h1;have h2:=nv (a:=bE n' f t) (b:=bE n' f t) om om;rw[decide_eq_true rfl] at h2;refine Pu.of_v aA T0 Tryz.func17 rfl rfl (aD (pI n) (aD rfl (aD (lX _) rfl))) ?_;repeat' ((conv=>whnf);first|exact kQ|(refine bk ?_ ?_<;>intro _<;>try(exfalso;omega))|refine stq ?_|refine cp h1 ?_|refine cp h2 ?_|refine aX.by (id:=1) aA T0 [0,0,0,7,0,31,63] (by kernel_rfl) ?_|refine Chk.mk (λ_=>rfl) ?_|fail)
 all_goals(conv=>whnf)
 all_goals exact aE.v rfl
theorem n2_c (hf:isF f) (hN:eI n n') (ht:t.length<=16):Pu Tryz.prog 19 [.iptr (nmC n),.iptr [aF (bE n' f t)],.iptr [aF t]] (boo true):=by
 have hl:=el hN.g f t;have hl3:=el hN.g 3 t;have h0:=kl (f:=3) (t:=t) (.inr (.inr (.inl rfl))) hN om;have h1:=kl (f:=3) (t:=bE n' f t) (.inr (.inr (.inl rfl))) hN om;rw[frm_kc hN.g hf] at h1;have h2:=nv (a:=bE n' 3 t) (b:=bE n' 3 t) om om;rw[decide_eq_true rfl] at h2;refine Pu.of_v aA T0 Tryz.func19 rfl rfl (aD (pI n) (aD (lX _) (aD (lX _) rfl))) ?_;repeat' ((conv=>whnf);first|exact kQ|(refine bk ?_ ?_<;>intro _<;>try(exfalso;omega))|refine stq ?_|refine cp h0 ?_|refine cp h1 ?_|refine cp h2 ?_|refine aX.by (id:=1) aA T0 [0,0,3,0,0,31,63,127] (by kernel_rfl) ?_|refine Chk.mk (λ_=>rfl) ?_|fail)
 all_goals(conv=>whnf)
 all_goals exact aE.v rfl
theorem n3_c (hf:isF f) (hN:eI n n') (hS:Pu Tryz.prog 150 [nmD n'] (fJ s)) (hO:kz n' s) (hs:s.length<=1000) (ht:t.length<=16):Pu Tryz.prog 20 [.iptr (nmC n),.iptr [i64 f],.iptr [aF t]] (boo true):=by
 have h1:=DJ hf hN hS hs (by omega:t.length<=100);have h2:=is_c hf hN (by omega:t.length<=1500);have hsf:cF f=true->kz n' (bW f s):=λh=>by unfold bW;rw[if_pos h];exact hO
 have h3:=Ew (q:=qcT n' f (bW f s) t) (b:=decide (bE n' f t=t)) tV (λh=>decide_eq_true (qc_yes hN.g hsf h)) (λh=>decide_eq_false (qc_no hN.g h));refine Pu.of_v aA T0 Tryz.func20 rfl rfl (aD (pI n) (aD rfl (aD (lX _) rfl))) ?_;repeat' ((conv=>whnf);first|exact kQ|(refine bk ?_ ?_<;>intro _<;>try(exfalso;omega))|refine stq ?_|refine cp h1 ?_|refine cp h2 ?_|refine cp h3 ?_|refine aX.by (id:=1) aA T0 [0,0,0,7,0,0,0,127,255,511] (by kernel_rfl) ?_|refine Chk.mk (λ_=>rfl) ?_|fail)
 all_goals(conv=>whnf)
 all_goals exact aE.v rfl
end
end
section
open Go Go.Am Classical
set_option linter.unusedVariables false
theorem HF {t:List Int}{k:Nat}(h:k<=t.length):D.imm ((k:Int)-0).toNat (((t.map i64).drop (Int.toNat 0*1)).take (((k:Int)-0).toNat*1))=aF (t.take k):=by
 have e:((k:Int)-0).toNat=k:=by omega
 rw[e];show _=D.imm (t.take k).length ((t.take k).map i64);rw[List.length_take,Nat.min_eq_left h,List.map_take];simp
theorem HZ {t:List Int}{k:Nat}(h:k<=t.length):D.imm ((t.length:Int)-k).toNat (((t.map i64).drop (Int.toNat (k:Int)*1)).take (((t.length:Int)-k).toNat*1))=aF (t.drop k):=by
 have e:((t.length:Int)-k).toNat=t.length-k:=by omega
 rw[e];show _=D.imm (t.drop k).length ((t.drop k).map i64);rw[List.length_drop,List.map_drop];congr 1;rw[Nat.mul_one,Int.toNat_natCast,Nat.mul_one];exact kE si
theorem HJ {P:Program}{g:FuncId}{a b x x' d:D}(e:x=x') (h:Pu P g [a,b,x'] d):Pu P g [a,b,x] d:=e▸h
theorem frz_2 {h:aB}{fz:Nat->Bool}{σ:Nat->Option Nat}{id cap:Nat}{a b:List Int}{cs:List D}{ex bx:Bool}(hf:fz id=true) (hg:h.get id=some (.cells cs bx)) (ec:cs=[aF a,aF b]):Rd h fz σ (.sl id 0 2 cap 1 ex) (.imm 2 [aF a,aF b]):=by
 subst ec;exact .frz hf hg si (.eqs rfl (by simp[aK,aC]))
theorem td3 {F:List Int->D}{x1 x2 y1 y2 A B:D}{a b:List Int}(hA:A=aF b) (hB:B=aF a) (h:[x1,x2,A]=[y1,y2,B]):F a=F b:=by
 subst hA hB;exact args3i h
section
variable {n n':Nm}{f:Int}{s:List Rng}{t:List Int}{k:Nat}
theorem n4_c (hf:isF f) (hN:eI n n') (ht:t.length<=16) (hk:k<t.length) (hcut:bE n' f t=bE n' f (t.take k)++bE n' f (t.drop k)) :
  Pu Tryz.prog 25 [.iptr (nmC n),.iptr [i64 f],.iptr [aF t],.iptr [i64 (k:Int)],.iptr [aF (bE n' f t)]] (boo true):=by
 have l1:=el hN.g f (t.take k);have l2:=el hN.g f (t.drop k);have l3:=el hN.g f t;rw[List.length_take] at l1;rw[List.length_drop] at l2;have h1:=kl (t:=t.take k) hf hN (by rw[List.length_take];omega);have h2:=kl (t:=t.drop k) hf hN (by rw[List.length_drop];omega);have h3:=xw (a:=bE n' f (t.take k)) (b:=bE n' f (t.drop k)) om;rw[<-hcut] at h3;have h4:=nv (a:=bE n' f t) (b:=bE n' f t) om om;rw[decide_eq_true rfl] at h4;refine Pu.of_v aA T0 Tryz.func25 rfl rfl (aD (pI n) (aD rfl (aD (lX _) (aD rfl (aD (lX _) rfl))))) ?_;repeat' ((conv=>whnf);first|exact kQ|(refine bk ?_ ?_<;>intro _<;>try(exfalso;omega))|refine stq ?_|refine cp h4 ?_|refine aX.byM (id:=1) aA T0 [0,0,0,0,12,31,0,0,0,0,768,2047,4095,8191,16383] (by kernel_rfl) ?_|refine Chk.mk ⟨by omega,by omega,by omega,(by show(t.map i64).length=t.length*1;simp)⟩ ?_|refine CM.pu (HJ (HF om) h1) ?_|refine CM.pu (HJ (HZ om) h2) ?_|(refine CM.w ?_;refine Cll.give (.cons (frz_2 rfl rfl rfl) .nil) h3 ?_)|refine Chk.mk ⟨_,rfl⟩ ?_|refine Chk.mk (λ_=>rfl) ?_|refine Chk.mk (λh=>td3 (F:=λu=>aF (bE n' f u)) (HZ om) (HF om) h) ?_|fail)
 all_goals(conv=>whnf)
 all_goals exact aE.v rfl
end
end
section
open Go Go.Am Classical
set_option linter.unusedVariables false
theorem xYM.rdX {p:Prop}(h:p:=by first|exact Rd.map rfl|exact Rd.same (aN (λ_=>aC _) _)|exact Rd.fn .nil (.cons (.frzp rfl rfl (.cons (.same (aC _)) .nil)) .nil)|exact Rd.own sim rfl sim sim|exact Rd.own sim rfl Bg Bg|fail):p:=h
theorem xYM.rbX {p:Prop}(h:p:=by first|exact Rb.map .nil|exact Rb.map (Res.eqs hM (nbEI _ _ _ _))|exact Rb.cells (Rds.same hnb) rfl|exact Rb.map (Res.same (nbEI _ _ _ _))|exact Rb.cells (Rds.eqs (sC (x::xs) (i:Int)) (aN (λ_=>rfl) _)) rfl|exact Rb.cells (Rds.same (ce n)) rfl|fail):p:=h
open xYM
noncomputable def ga (n:Nm) (f:Int) (s:List Rng) (c:Int):Bool:=match d7 n (kF f) [c] with|[]=>true|x::_=>!decide (aJ n.cl x=0) || bM s x
noncomputable def wW (n:Nm) (f:Int) (s:List Rng) (u:List Int):List (Int×Bool):=u.map λc=>(c,ga n f s c)
noncomputable abbrev CB (n:Nm) (f:Int) (s:List Rng) (u:List Int):List (D×D):=(wW n f s u).map λp=>(i64 p.1,boo p.2)
theorem nbEI (n:Nm) (f:Int) (s:List Rng) (u:List Int):∀ p∈CB n f s u,aL p.1=true∧aL p.2=true:=λp hp=>by
 obtain⟨q,_,rfl⟩:=List.mem_map.1 hp;exact⟨rfl,rfl⟩
theorem D2 {n:Nm}{f:Int}{s:List Rng}{u:List Int}{c:Int}{i:Nat}(h:c∉u):lkZ c (wW n f s u) i=none:=io.2 λp hp e=>by
 obtain⟨x,hx,rfl⟩:=List.mem_map.1 hp;exact h (e▸hx)
theorem AG {n:Nm}{f:Int}{s:List Rng}{c:Int}:∀ {u:List Int}{i:Nat},c∈u->∃ j,lkZ c (wW n f s u) i=some (j,ga n f s c)
 | [],_,h=>by simp at h
 | x::u,i,h=>by
  simp only[wW,List.map_cons,lkZ];by_cases hx:c=x
  ·subst hx;rw[if_pos rfl];exact⟨_,rfl⟩
  ·rw[if_neg hx]
   exact AG (by
    rcases List.mem_cons.1 h with h|h
    ·exact absurd h hx
    ·exact h)
noncomputable def fD (n:Nm) (f:Int) (s:List Rng) (t:List Int) (k:Nat):List Int:=((List.range k).filter λi=>!ga n f s (t.getD i 0)).map λi:Nat=>(i:Int)
theorem tH {n:Nm}{f:Int}{s:List Rng}{t:List Int}{k:Nat}(h:k<t.length):fD n f s t (k+1)=if ga n f s t[k]=true then fD n f s t k else fD n f s t k++[(k:Int)]:=by
 unfold fD;have hg:t.getD k 0=t[k]:=gDe h;rw[List.range_succ,List.filter_append,List.map_append];by_cases hi:ga n f s t[k]=true
 ·rw[if_pos hi,List.filter_cons_of_neg (by rw[hg,hi];simp)];simp
 ·rw[if_neg hi,List.filter_cons_of_pos (by rw[hg];simpa using hi)];simp
section
variable {n n':Nm}{f:Int}{s:List Rng}{t:List Int}
theorem Eo (hf:isF f) (hN:eI n n') (hS:Pu Tryz.prog 150 [nmD n'] (fJ s)) (hO:kz n' s) (hs:s.length<=1000) (ht:t.length<=100):Pu Tryz.prog 24 [nmD n,i64 f,aF t] (aF (fD n' f (bW f s) t t.length)):=by
 have h1:=sQ hf hN hS;have hN':=qm hN;have hG:=hN.g;have hls:=vg (f:=f) hs
 have hsf:∀ c,¬(0<=c∧c<=1114111)->ga n' f (bW f s) c=false:=λc hc=>by
  have e:d7 n' (kF f) [c]=[c]:=by
   show dcm _ _ _=_;simp[dcm,exs,yg hG hc,can,bw]
  unfold ga;rw[e];simp only[zv hG hc,bM,hc,decide_false,decide_true,Bool.false_and,Bool.not_true,Bool.or_false]
 generalize hsq:bW f s=q at *;have huc:fG n'.cl=n'.cl:=if_pos hN.g.cls;have hcl:=hN.ok.cl;obtain⟨d1,d2,d3,d4⟩:=mJ t [] si si;have hc:=Ec (t:=t) om;have hP:=DK (f:=f) (s:=q) (l:=c9 t) hN' (by unfold c9;simp at d4;omega) (λc hc=>(d2 c hc).1);have hnb:=je n' f q;have d1':(c9 t).Nodup:=d1;have d3':∀ c,c∈c9 t↔(c∈t∧0<=c∧c<=1114111):=λc=>by have:=d3 c;simpa [c9] using this
 have d4':(c9 t).length<=t.length:=by simpa [c9] using d4
 generalize c9 t=u at *;generalize hPL:(u.map λc=>d7 n' (kF f) [c])=PL at hP;have lP:PL.length=u.length:=by rw[<-hPL];simp
 have eP:∀ i (h:i<u.length),PL[i]'(by omega)=d7 n' (kF f) [u[i]]:=λi h=>by subst hPL;simp
 have bP:∀ i (h:i<u.length),(PL[i]'(by omega)).length<=64:=λi h=>by rw[eP i h];have:=iR hN.g (kF f) [u[i]];simpa using this
 refine Pu.of_v aA T0 Tryz.func24 rfl rfl (aD (aQ n) (aD rfl (aD (aC _) rfl))) ?_;repeat' ((conv=>whnf);first|exact kQ|(refine bk ?_ ?_<;>intro _<;>try(exfalso;omega))|refine stq ?_|refine cp h1 ?_|refine cp hP ?_|refine Cll.pk zA ?_|refine Cll.emb (hc ⟨0,[]⟩) [] [16] (aF u) [] [(11,.map []),(8,.cells (ckC n' f q) true),(0,.cells (nmC n) true)] rfl cZ bxA rdA bxA reA ?_|fail)
 all_goals(conv=>whnf)
 refine aH.by aA T0 (λj:Nat=>⟨tmp 80 [(2,aF t),(7,.ptr 0 0),(9,.map 1),(10,aF u),(29,iu PL),(30,i64 (PL.length:Int)),(31,i64 (j:Int))],⟨2,[(0,.cells (ckC n' f q) true),(1,.map (CB n' f q (u.take j)))]⟩⟩) (λj=>j<=u.length) (λj=>u.length-j) 0 om ?_ ?_
 ·exact lq [(0,8),(1,11)] []
 intro j hj;by_cases h:j<u.length
 ·have hz:lkZ u[j] (wW n' f q (u.take j)) 0=none:=D2 λhc=>by
   obtain⟨i,hi,e⟩:=List.getElem_of_mem hc;have hj2:i<j:=by simp at hi;omega
   rw[List.getElem_take] at e;have:=(List.getElem_inj d1').1 e;omega
  have hM0:CB n' f q (u.take j)++[(i64 u[j],boo (ga n' f q u[j]))]=CB n' f q (u.take (j+1)):=by
   show((wW n' f q (u.take j)).map λp=>(i64 p.1,boo p.2))++_=(wW n' f q (u.take (j+1))).map λp=>(i64 p.1,boo p.2)
   unfold wW;rw[aS h,List.map_append,List.map_append];rfl
  have e2:=eP j h;have b2:=bP j h;by_cases h0:(PL[j]'(by omega)).length=0
  ·have hI:ga n' f q u[j]=true:=by
    unfold ga;rw[<-e2,List.length_eq_zero_iff.1 h0]
   rw[hI] at hM0;have hM:=hM0;repeat' ((conv=>whnf);first|exact kQ|(refine bk ?_ ?_<;>intro _<;>try(exfalso;omega))|refine stq ?_|(refine cB.int (λ_ _ hq=>?_) (λhq=>?_)<;>first|(rw[hz] at hq;cases hq)|skip)|refine aX.by (id:=8) aA T0 [0,0,0,6,14,0,32,96,224,480,992,2016,480,4576,12768,32736,65504,131040,262112,524256,1048544,524256,2621408,6815712,16777184,33554400,67108863] (by kernel_rfl) ?_|refine Chk.mk ⟨_,rfl⟩ ?_|refine Chk.mk (λ_=>rfl) ?_|fail)
   all_goals(conv=>whnf)
   all_goals first
    | contradiction
    | (refine⟨j+1,by omega,by omega,?_⟩
       exact lq [(0,0),(1,1)] [])
  ·have hpos:0<(PL[j]'(by omega)).length:=by omega
   have hI:ga n' f q u[j]=(!decide (aJ n'.cl ((PL[j]'(by omega))[0]'hpos)=0) || bM q ((PL[j]'(by omega))[0]'hpos)):=by
    unfold ga;rw[<-e2];generalize PL[j]'(by omega)=p at hpos;cases p with
    | nil=>simp at hpos
    | cons x xs=>rfl
   have hst:=oW (l:=n'.cl) (c:=(PL[j]'(by omega))[0]'hpos) hcl;rw[huc] at hst;by_cases hs0:aJ n'.cl ((PL[j]'(by omega))[0]'hpos)=0
   ·rw[decide_eq_true hs0] at hst hI;have hhas:=EC (l:=q) (c:=(PL[j]'(by omega))[0]'hpos) om;cases hx:bM q ((PL[j]'(by omega))[0]'hpos) with
    | true=>
     rw[hx] at hhas hI;rw[hI] at hM0;have hM:=hM0;repeat' ((conv=>whnf);first|exact kQ|(refine bk ?_ ?_<;>intro _<;>try(exfalso;omega))|refine stq ?_|refine cp hst ?_|refine cp hhas ?_|(refine cB.int (λ_ _ hq=>?_) (λhq=>?_)<;>first|(rw[hz] at hq;cases hq)|skip)|refine aX.by (id:=8) aA T0 [0,0,0,6,14,0,32,96,224,480,992,2016,480,4576,12768,32736,65504,131040,262112,524256,1048544,524256,2621408,6815712,16777184,33554400,67108863] (by kernel_rfl) ?_|refine Chk.mk ⟨_,rfl⟩ ?_|refine Chk.mk (λ_=>rfl) ?_|fail)
     all_goals(conv=>whnf)
     all_goals first
      | contradiction
      | (refine⟨j+1,by omega,by omega,?_⟩
         exact lq [(0,0),(1,1)] [])
    | false=>
     rw[hx] at hhas hI;rw[hI] at hM0;have hM:=hM0;repeat' ((conv=>whnf);first|exact kQ|(refine bk ?_ ?_<;>intro _<;>try(exfalso;omega))|refine stq ?_|refine cp hst ?_|refine cp hhas ?_|(refine cB.int (λ_ _ hq=>?_) (λhq=>?_)<;>first|(rw[hz] at hq;cases hq)|skip)|refine aX.by (id:=8) aA T0 [0,0,0,6,14,0,32,96,224,480,992,2016,480,4576,12768,32736,65504,131040,262112,524256,1048544,524256,2621408,6815712,16777184,33554400,67108863] (by kernel_rfl) ?_|refine Chk.mk ⟨_,rfl⟩ ?_|refine Chk.mk (λ_=>rfl) ?_|fail)
     all_goals(conv=>whnf)
     all_goals first
      | contradiction
      | (refine⟨j+1,by omega,by omega,?_⟩
         exact lq [(0,0),(1,1)] [])
   ·rw[decide_eq_false hs0] at hst hI;rw[hI] at hM0;have hM:=hM0;repeat' ((conv=>whnf);first|exact kQ|(refine bk ?_ ?_<;>intro _<;>try(exfalso;omega))|refine stq ?_|refine cp hst ?_|(refine cB.int (λ_ _ hq=>?_) (λhq=>?_)<;>first|(rw[hz] at hq;cases hq)|skip)|refine aX.by (id:=8) aA T0 [0,0,0,6,14,0,32,96,224,480,992,2016,480,4576,12768,32736,65504,131040,262112,524256,1048544,524256,2621408,6815712,16777184,33554400,67108863] (by kernel_rfl) ?_|refine Chk.mk ⟨_,rfl⟩ ?_|refine Chk.mk (λ_=>rfl) ?_|fail)
    all_goals(conv=>whnf)
    all_goals first
     | contradiction
     | (refine⟨j+1,by omega,by omega,?_⟩
        exact lq [(0,0),(1,1)] [])
 ·obtain rfl:j=u.length:=by omega
  rw[List.take_length];repeat' ((conv=>whnf);first|exact kQ|(refine bk ?_ ?_<;>intro _<;>try(exfalso;omega))|refine stq ?_|fail)
  all_goals(conv=>whnf)
  refine aH.by aA T0 (λi:Nat=>⟨tmp 80 [(9,.map 0),(13,fB 1 1 (fD n' f q t i)),(63,aF t),(64,i64 (t.length:Int)),(65,i64 (i:Int))],⟨2,(0,.map (CB n' f q u))::ownM 1 (fD n' f q t i)⟩⟩) (λi=>i<=t.length) (λi=>t.length-i) 0 om ?_ ?_
  ·show Lf _ _ ⟨tmp 80 [(9,.map 0),(13,aO),(63,aF t),(64,i64 (t.length:Int)),(65,i64 0)],⟨2,[(0,.map (CB n' f q u))]⟩⟩;exact lq [(0,1)] []
  intro i hi;by_cases h2:i<t.length
  ·have hs1:=tH (n:=n') (f:=f) (s:=q) h2
   have hol:(fD n' f q t i).length<=i:=by
    unfold fD;rw[List.length_map];exact Nat.le_trans (List.length_filter_le _ _) si
   generalize fD n' f q t i=o at *;by_cases hm:t[i]∈u
   ·obtain⟨jj,hlk⟩:=AG (n:=n') (f:=f) (s:=q) (i:=0) hm;cases hv:ga n' f q t[i] with
    | true=>
     rw[hv] at hlk hs1;rw[if_pos rfl] at hs1;cases o with
     | nil=>
      repeat' ((conv=>whnf);first|exact kQ|(refine bk ?_ ?_<;>intro _<;>try(exfalso;omega))|refine stq ?_|(refine cB.int (λ_ _ hq=>?_) (λhq=>?_)<;>(rw[hlk] at hq;first|(cases hq;done)|(simp only[kA,kB] at hq;obtain⟨rfl,rfl⟩:=hq)))|fail)
      all_goals(conv=>whnf)
      refine⟨i+1,by omega,by omega,?_⟩;simp only[hs1];exact lq [(0,0)] []
     | cons x xs=>
      repeat' ((conv=>whnf);first|exact kQ|(refine bk ?_ ?_<;>intro _<;>try(exfalso;omega))|refine stq ?_|(refine cB.int (λ_ _ hq=>?_) (λhq=>?_)<;>(rw[hlk] at hq;first|(cases hq;done)|(simp only[kA,kB] at hq;obtain⟨rfl,rfl⟩:=hq)))|fail)
      all_goals(conv=>whnf)
      refine⟨i+1,by omega,by omega,?_⟩;simp only[hs1];exact lq [(0,0),(1,1)] []
    | false=>
     rw[hv] at hlk hs1;rw[if_neg si] at hs1;cases o with
     | nil=>
      repeat' ((conv=>whnf);first|exact kQ|(refine bk ?_ ?_<;>intro _<;>try(exfalso;omega))|refine stq ?_|(refine cB.int (λ_ _ hq=>?_) (λhq=>?_)<;>(rw[hlk] at hq;first|(cases hq;done)|(simp only[kA,kB] at hq;obtain⟨rfl,rfl⟩:=hq)))|refine Chk.growX 8 1 rfl rfl om om (by first|(simp;done)|exact kD rfl) ?_|fail)
      all_goals(conv=>whnf)
      refine⟨i+1,by omega,by omega,?_⟩;simp only[hs1,List.nil_append];exact lq [(0,0),(1,15)] []
     | cons x xs=>
      have hx:(x::xs).length=xs.length+1:=rfl;repeat' ((conv=>whnf);first|exact kQ|(refine bk ?_ ?_<;>intro _<;>try(exfalso;omega))|refine stq ?_|(refine cB.int (λ_ _ hq=>?_) (λhq=>?_)<;>(rw[hlk] at hq;first|(cases hq;done)|(simp only[kA,kB] at hq;obtain⟨rfl,rfl⟩:=hq)))|refine Chk.growX 8 1 rfl rfl om om (by first|(simp;done)|exact kD rfl) ?_|fail)
      all_goals(conv=>whnf)
      refine⟨i+1,by omega,by omega,?_⟩;simp only[hs1];exact lq [(0,0),(1,15)] []
   ·have hlk:=D2 (n:=n') (f:=f) (s:=q) (i:=0) hm;have hv:ga n' f q t[i]=false:=hsf _ λhc=>hm ((d3' _).2 ⟨kM h2,hc⟩)
    rw[hv,if_neg si] at hs1;cases o with
    | nil=>
     repeat' ((conv=>whnf);first|exact kQ|(refine bk ?_ ?_<;>intro _<;>try(exfalso;omega))|refine stq ?_|(refine cB.int (λ_ _ hq=>?_) (λhq=>?_)<;>first|(rw[hlk] at hq;cases hq)|skip)|refine Chk.growX 8 1 rfl rfl om om (by first|(simp;done)|exact kD rfl) ?_|fail)
     all_goals(conv=>whnf)
     refine⟨i+1,by omega,by omega,?_⟩;simp only[hs1,List.nil_append];exact lq [(0,0),(1,15)] []
    | cons x xs=>
     have hx:(x::xs).length=xs.length+1:=rfl;repeat' ((conv=>whnf);first|exact kQ|(refine bk ?_ ?_<;>intro _<;>try(exfalso;omega))|refine stq ?_|(refine cB.int (λ_ _ hq=>?_) (λhq=>?_)<;>first|(rw[hlk] at hq;cases hq)|skip)|refine Chk.growX 8 1 rfl rfl om om (by first|(simp;done)|exact kD rfl) ?_|fail)
     all_goals(conv=>whnf)
     refine⟨i+1,by omega,by omega,?_⟩;simp only[hs1];exact lq [(0,0),(1,15)] []
  ·obtain rfl:i=t.length:=by omega
   generalize fD n' f q t t.length=o at *;cases o with
   | nil=>
    repeat' ((conv=>whnf);first|exact kQ|(refine bk ?_ ?_<;>intro _<;>try(exfalso;omega))|refine stq ?_|fail)
    all_goals(conv=>whnf)
    exact⟨.nil⟩
   | cons x xs=>
    repeat' ((conv=>whnf);first|exact kQ|(refine bk ?_ ?_<;>intro _<;>try(exfalso;omega))|refine stq ?_|fail)
    all_goals(conv=>whnf)
    exact⟨wy rfl rfl rfl rfl⟩
end
end
section
open Go Go.Am Classical
set_option linter.unusedVariables false
theorem xYN.rdX {p:Prop}(h:p:=by first|exact Rd.same hb|fail):p:=h
open xYN
abbrev ckD (x:FuncId×List D):D:=.fn (.func x.1) [] x.2
theorem held_l {o:List (FuncId×List D)}(hl:o.length<=100000) (hn:∀ x∈o,aK x.2=true) (h:∀ x∈o,Pu Tryz.prog x.1 x.2 (boo true)):Pu Tryz.prog 27 [lst ckD o] (i64 (o.length:Int)):=by
 have hnb:∀ l:List (FuncId×List D),(∀ x∈l,aK x.2=true)->aK (l.map ckD)=true:=by
  intro l
  induction l with
  | nil=>intro _;rfl
  | cons x l ih=>intro hl;exact aD (by simp[aL,aK,hl x si]) (ih λy hy=>hl y (by simp[hy]))
 have hb:aL (lst ckD o)=true:=hnb o hn;refine Pu.of_v aA T0 Tryz.func27 rfl rfl (aD hb rfl) ?_;repeat' ((conv=>whnf);first|exact kQ|(refine bk ?_ ?_<;>intro _<;>try(exfalso;omega))|refine stq ?_)
 all_goals(conv=>whnf)
 refine aH.by aA T0 (λk:Nat=>⟨tmp 18 [(3,i64 (k:Int)),(6,lst ckD o),(7,i64 (o.length:Int)),(8,i64 (k:Int))],⟨0,[]⟩⟩) (λk=>k<=o.length) (λk=>o.length-k) 0 om ?_ ?_
 ·exact lq0
 intro k hk;by_cases h2:k<o.length
 ·have hp:=h o[k] (kM h2);repeat' ((conv=>whnf);first|exact kQ|(refine bk ?_ ?_<;>intro _<;>try(exfalso;omega))|refine stq ?_|refine cp hp ?_|fail)
  all_goals(conv=>whnf)
  refine⟨k+1,by omega,by omega,?_⟩;exact lq0
 ·obtain rfl:k=o.length:=by omega
  repeat' ((conv=>whnf);first|exact kQ|(refine bk ?_ ?_<;>intro _<;>try(exfalso;omega))|refine stq ?_|fail)
  all_goals(conv=>whnf)
  exact aE.int rfl
end
section
open Go Go.Am Classical
set_option linter.unusedVariables false
abbrev Ckt:=FuncId×List D
abbrev ck1 (n:Nm) (f:Int) (F:List Int):Ckt:=(17,[.iptr (nmC n),.iptr [i64 f],.iptr [aF F]])
abbrev ck2 (n:Nm) (F t:List Int):Ckt:=(19,[.iptr (nmC n),.iptr [aF F],.iptr [aF t]])
abbrev ck3 (n:Nm) (f:Int) (t:List Int):Ckt:=(20,[.iptr (nmC n),.iptr [i64 f],.iptr [aF t]])
abbrev ck4 (n:Nm) (f:Int) (t F:List Int) (k:Int):Ckt:=(25,[.iptr (nmC n),.iptr [i64 f],.iptr [aF t],.iptr [i64 k],.iptr [aF F]])
def sA (n:Nm) (f:Int) (t F b:List Int):List Ckt:=(b.filter λk=>decide (0<k)).map (ck4 n f t F)
noncomputable def xX (n n':Nm) (s:List Rng) (t:List Int) (f:Int):List Ckt:=[ck1 n f (bE n' f t),ck2 n (bE n' f t) t,ck3 n f t]++sA n f t (bE n' f t) (fD n' f (bW f s) t t.length)
noncomputable def gF (n n':Nm) (s:List Rng) (t:List Int):Nat->List Ckt
 | 0=>[]
 | m+1=>gF n n' s t m++xX n n' s t ((m+1:Nat):Int)
abbrev cC (x:Ckt):List D:=[ckD x]
def uO (o:List Ckt):Prop:=∀ x∈o,aK x.2=true
theorem Ft {o:List Ckt}(h:uO o):aK (o.flatMap cC)=true:=by
 induction o with
 | nil=>rfl
 | cons x l ih=>
  rw[List.flatMap_cons];exact aD (by simp[aL,aK,h x si]) (ih λy hy=>h y (by simp[hy]))
theorem mN:∀ o:List Ckt,o.flatMap cC=o.map ckD
 | []=>rfl
 | x::l=>by rw[List.flatMap_cons,mN l];rfl
theorem nb_c1 {n:Nm}{f:Int}{F:List Int}:aK (ck1 n f F).2=true:=aD (pI n) (aD rfl (aD (lX _) rfl))
theorem nb_c2 {n:Nm}{F t:List Int}:aK (ck2 n F t).2=true:=aD (pI n) (aD (lX _) (aD (lX _) rfl))
theorem HO {n:Nm}{f:Int}{t:List Int}:aK (ck3 n f t).2=true:=aD (pI n) (aD rfl (aD (lX _) rfl))
theorem nb_c4 {n:Nm}{f k:Int}{t F:List Int}:aK (ck4 n f t F k).2=true:=aD (pI n) (aD rfl (aD (lX _) (aD rfl (aD (lX _) rfl))))
theorem zy {n:Nm}{f:Int}{t F b:List Int}:uO (sA n f t F b):=λx hx=>by
 obtain⟨k,_,rfl⟩:=List.mem_map.1 hx;exact nb_c4
theorem m8 {a b:List Ckt}(h:uO a) (k:uO b):uO (a++b):=λx hx=>by
 rcases List.mem_append.1 hx with hx|hx
 ·exact h x hx
 ·exact k x hx
theorem wT {n:Nm}{f:Int}{t F:List Int}:uO [ck1 n f F,ck2 n F t,ck3 n f t]:=λx hx=>by
 simp only[kH,List.not_mem_nil,or_false] at hx;rcases hx with rfl|rfl|rfl
 ·exact nb_c1
 ·exact nb_c2
 ·exact HO
theorem uN {n n':Nm}{s:List Rng}{t:List Int}:∀ m,uO (gF n n' s t m)
 | 0=>λx hx=>by simp[gF] at hx
 | m+1=>m8 (uN m) (m8 wT zy)
theorem xY {n:Nm}{f:Int}{t F b:List Int}:(sA n f t F b).length<=b.length:=by
 unfold sA;rw[List.length_map];exact List.length_filter_le _ _
theorem kx {n:Nm}{f:Int}{s:List Rng}{t:List Int}{k:Nat}:(fD n f s t k).length<=k:=by
 unfold fD;rw[List.length_map];exact Nat.le_trans (List.length_filter_le _ _) si
theorem rT {n n':Nm}{s:List Rng}{t:List Int}:∀ m,(gF n n' s t m).length<=m*(3+t.length)
 | 0=>by simp[gF]
 | m+1=>by
  have h1:=rT (n:=n) (n':=n') (s:=s) (t:=t) m;have h2:=xY (n:=n) (f:=((m+1:Nat):Int)) (t:=t) (F:=bE n' ((m+1:Nat):Int) t) (b:=fD n' ((m+1:Nat):Int) (bW ((m+1:Nat):Int) s) t t.length);have h3:=kx (n:=n') (f:=((m+1:Nat):Int)) (s:=bW ((m+1:Nat):Int) s) (t:=t) (k:=t.length);rw[gF,xX,kG,kG,Nat.add_mul];simp only[kO,List.length_nil];omega
theorem Dv {n:Nm}{f:Int}{s:List Rng}{t:List Int}{x:Int}(h:x∈fD n f s t t.length):∃ k:Nat,x=k∧∃ hk:k<t.length,ga n f s t[k]=false:=by
 unfold fD at h;obtain⟨k,hk,rfl⟩:=List.mem_map.1 h;obtain⟨h1,h2⟩:=List.mem_filter.1 hk;have h3:=List.mem_range.1 h1;refine⟨k,rfl,h3,?_⟩
 have:t.getD k 0=t[k]:=gDe h3
 rw[this] at h2;simpa using h2
section
variable {n n':Nm}{f:Int}{s:List Rng}{t:List Int}
theorem Gm (hf:isF f) (hN:eI n n') (hS:Pu Tryz.prog 150 [nmD n'] (fJ s)) (hO:kz n' s) (hs:s.length<=1000) (ht:t.length<=16):∀ x∈xX n n' s t f,Pu Tryz.prog x.1 x.2 (boo true):=λx hx=>by
 rcases List.mem_append.1 hx with hx|hx
 ·simp only[kH,List.not_mem_nil,or_false] at hx;rcases hx with rfl|rfl|rfl
  ·exact n1_c hf hN ht
  ·exact n2_c hf hN ht
  ·exact n3_c hf hN hS hO hs ht
 ·obtain⟨y,hy,rfl⟩:=List.mem_map.1 hx;obtain⟨hy,hpos⟩:=List.mem_filter.1 hy;obtain⟨k,rfl,hk,hi⟩:=Dv hy;refine n4_c hf hN ht hk ?_;have e:t=t.take k++t[k]::t.drop (k+1):=by rw[<-kK hk,List.take_append_drop]
  have hc:=GO hN.g (f:=f) (c:=t[k]) (t.take k) (t.drop (k+1)) ?_
  ·rw[<-e,<-kK hk] at hc;exact hc
  ·unfold ga at hi;cases hp:d7 n' (kF f) [t[k]] with
   | nil=>rw[hp] at hi;cases hi
   | cons b es=>
    rw[hp] at hi;simp only[Bool.or_eq_false_iff,Bool.not_eq_false',decide_eq_true_eq] at hi;refine⟨b,es,rfl,hi.1,λhcf a=>?_⟩;cases hj:jn n' a b with
    | none=>rfl
    | some w=>
     have:=(hO b).2 ⟨a,by rw[hj];simp⟩
     have h2:=hi.2;unfold bW at h2;rw[if_pos hcf,this] at h2;cases h2
end
end
section
open Go Go.Am Classical
set_option linter.unusedVariables false
theorem xYP.rdX {p:Prop}(h:p:=by first|exact Rd.frzp rfl rfl (Rds.same (ce n))|exact Rd.frzp rfl rfl (Rds.cons (Rd.same (aC _)) Rds.nil)|exact Rd.same (pI n)|exact Rd.same (lX _)|exact Rd.frzp rfl rfl (Rds.same rfl)|exact Rd.sl' rfl rfl rfl|exact Rd.frzp rfl rfl (Rds.same (aD (aC _) rfl))|exact Rd.sl' rfl wkL wkL|exact Rd.same (aD (aC _) rfl)|exact Rd.sl' rfl sim sim|fail):p:=h
theorem xYP.rbX {p:Prop}(h:p:=by first|exact Rb.cells (Rds.same hnc) rfl|exact Rb.cells (Rds.same hw3) rfl|exact Rb.cells (Rds.cons (Rd.int om) Rds.nil) rfl|exact Rb.cells (Rds.tr (ds:=[d1P n ((m+1:Nat):Int) 4,d2P n t 4,ckD (ck3 n ((m+1:Nat):Int) t)]) rfl (by first|(rw[tX];rfl;done)|fail) (vM rfl rfl)) rfl|exact Rb.cells (Rds.tr (ds:=W.flatMap cC++[d4P n ((m+1:Nat):Int) t F 4]) (Et (apW W) rfl) (by first|(rw[List.flatMap_append];done)|fail) (Rds.app (.same hw3) (GP rfl rfl))) rfl|exact Rb.cells (Rds.tr (ds:=(x::xs).flatMap cC++[d1P n ((m+1:Nat):Int) 5,d2P n t 5,ckD (ck3 n ((m+1:Nat):Int) t)]) (Et (apW (x::xs)) rfl) (by first|(rw[tX,List.flatMap_append];done)|fail) (Rds.app (.same hnc) (vM rfl rfl))) rfl|fail):p:=h
open xYP
theorem nb_clk {x:Ckt}(h:aK x.2=true):aL (ckD x)=true:=by simp[aL,aK,h]
abbrev d1P (n:Nm) (f:Int) (p:Nat):D:=.fn (.func 17) [] [.iptr (nmC n),.iptr [i64 f],.ptr p 0]
abbrev d2P (n:Nm) (t:List Int) (p:Nat):D:=.fn (.func 19) [] [.iptr (nmC n),.ptr p 0,.iptr [aF t]]
abbrev d4P (n:Nm) (f:Int) (t F:List Int) (p:Nat):D:=.fn (.func 25) [] [.iptr (nmC n),.iptr [i64 f],.iptr [aF t],.ptr p 0,.iptr [aF F]]
theorem vM {h:aB}{fz:Nat->Bool}{σ:Nat->Option Nat}{p:Nat}{n:Nm}{f:Int}{t F:List Int}{bx:Bool}(hf:fz p=true) (hg:h.get p=some (.cells [aF F] bx)):Rds h fz σ [d1P n f p,d2P n t p,ckD (ck3 n f t)] ([ck1 n f F,ck2 n F t,ck3 n f t].flatMap cC):=
 have hp:Rd h fz σ (.ptr p 0) (.iptr [aF F]):=.frzp hf hg (.same (aD (aC _) rfl))
 .cons (.fn .nil (.cons (.same (pI n)) (.cons (.same rfl) (.cons hp .nil)))) (.cons (.fn .nil (.cons (.same (pI n)) (.cons hp (.cons (.same (lX t)) .nil)))) (.cons (.same (nb_clk HO)) .nil))
theorem GP {h:aB}{fz:Nat->Bool}{σ:Nat->Option Nat}{p:Nat}{n:Nm}{f k:Int}{t F:List Int}{bx:Bool}(hf:fz p=true) (hg:h.get p=some (.cells [i64 k] bx)):Rds h fz σ [d4P n f t F p] ([ck4 n f t F k].flatMap cC):=
 .cons (.fn .nil (.cons (.same (pI n)) (.cons (.same rfl) (.cons (.same (lX t)) (.cons (.frzp hf hg (.same rfl)) (.cons (.same (lX F)) .nil)))))) .nil
def wk (o:List Ckt) (n:Nm) (f:Int) (t F B:List Int) (k:Nat):List Ckt:=o++([ck1 n f F,ck2 n F t,ck3 n f t]++sA n f t F (B.take k))
theorem tX {o:List Ckt}{n:Nm}{f:Int}{t F B:List Int}:wk o n f t F B 0=o++[ck1 n f F,ck2 n F t,ck3 n f t]:=by simp[wk,sA]
theorem zd {o:List Ckt}{n:Nm}{f:Int}{t F B:List Int}:(wk o n f t F B 0).length=o.length+3:=by simp[tX]
theorem Ci {o:List Ckt}{n:Nm}{f:Int}{t F B:List Int}{k:Nat}(h:k<B.length) (hp:0<B[k]):wk o n f t F B (k+1)=wk o n f t F B k++[ck4 n f t F B[k]]:=by
 unfold wk sA;rw[aS h,List.filter_append,List.map_append,List.filter_cons_of_pos (by simpa using hp)];simp
theorem HD {o:List Ckt}{n:Nm}{f:Int}{t F B:List Int}{k:Nat}(h:k<B.length) (hp:¬0<B[k]):wk o n f t F B (k+1)=wk o n f t F B k:=by
 unfold wk sA;rw[aS h,List.filter_append,List.map_append,List.filter_cons_of_neg (by simpa using hp)];simp
theorem HN {o:List Ckt}{n:Nm}{f:Int}{t F B:List Int}{k:Nat}(h:uO o):uO (wk o n f t F B k):=m8 h (m8 wT zy)
theorem HE {o:List Ckt}{n:Nm}{f:Int}{t F B:List Int}{k:Nat}:(wk o n f t F B k).length<=o.length+3+B.length:=by
 have:=xY (n:=n) (f:=f) (t:=t) (F:=F) (b:=B.take k)
 rw[List.length_take] at this;unfold wk;simp only[kG,kO,List.length_nil];omega
theorem Cj {o:List Ckt}{n:Nm}{f:Int}{t F B:List Int}{k:Nat}:3<=(wk o n f t F B k).length:=by
 unfold wk;simp only[kG,kO,List.length_nil];omega
theorem wkL {p:Prop}(h:p:=by first|exact zd.symm|(rw[zd];rfl)|fail):p:=h
theorem Et {a a' b b':List D}(h:a=a') (k:b=b'):a++b=a' ++ b':=by rw[h,k]
theorem apW (o:List Ckt):((o.flatMap cC).drop 0).take (o.length*1)=o.flatMap cC:=by
 rw[mN,List.drop_zero,kE si]
theorem Ck {o:List Ckt}{n:Nm}{f:Int}{t F B:List Int}:wk o n f t F B B.length=o++([ck1 n f F,ck2 n F t,ck3 n f t]++sA n f t F B):=by unfold wk;rw[List.take_length]
theorem frz_k {h:aB}{fz:Nat->Bool}{σ:Nat->Option Nat}{id n cap:Nat}{o:List Ckt}{cs:List D}{ex bx:Bool}(hf:fz id=true) (hg:h.get id=some (.cells cs bx)) (ec:cs=o.flatMap cC) (e:n=o.length) (hn:aK (o.flatMap cC)=true):Rd h fz σ (.sl id 0 n cap 1 ex) (lst ckD o):=by
 subst e;subst ec;refine .frz hf hg (by rw[mN,List.length_map];omega) (.eqs ?_ (by rw[<-mN];exact hn));rw[mN,List.drop_zero,kE si]
section
variable {n n':Nm}{s:List Rng}{t:List Int}
theorem Ag (hN:eI n n') (hS:Pu Tryz.prog 150 [nmD n'] (fJ s)) (hO:kz n' s) (hs:s.length<=1000) (ht:t.length<=16):∀ m,m<=4->∀ x∈gF n n' s t m,Pu Tryz.prog x.1 x.2 (boo true)
 | 0,_,x,hx=>by simp[gF] at hx
 | m+1,hm,x,hx=>by
  rcases List.mem_append.1 hx with hx|hx
  ·exact Ag hN hS hO hs ht m om x hx
  ·exact Gm (by unfold isF;omega) hN hS hO hs ht x hx
theorem norm_c (hN:eI n n') (hS:Pu Tryz.prog 150 [nmD n'] (fJ s)) (hO:kz n' s) (hs:s.length<=1000) (ht:t.length<=16):Pu Tryz.prog 7 [nmD n,aF t] (i64 ((gF n n' s t 4).length:Int)):=by
 refine Pu.of_v aA T0 Tryz.func7 rfl rfl (aD (aQ n) (aD (aC _) rfl)) ?_;repeat' ((conv=>whnf);first|exact kQ|(refine bk ?_ ?_<;>intro _<;>try(exfalso;omega))|refine stq ?_)
 refine aH.by aA T0 (λm:Nat=>⟨tmp 43 [(2,.iptr (nmC n)),(3,.iptr [aF t]),(5,fB 0 1 (gF n n' s t m)),(6,.ptr 1 0)],⟨2,gA 0 cC (gF n n' s t m)++[(1,.cells [i64 ((m+1:Nat):Int)] true)]⟩⟩) (λm=>m<=4) (λm=>4-m) 0 om ?_ ?_
 ·show Lf _ _ ⟨tmp 43 [(2,.iptr (nmC n)),(3,.iptr [aF t]),(5,aO),(6,.ptr 1 0)],⟨2,[(1,.cells [i64 1] true)]⟩⟩;exact lq [(1,4)] [0,1]
 intro m hm;by_cases h4:m<4
 ·have hf:isF ((m+1:Nat):Int):=by unfold isF;omega
  have hB:=Eo hf hN hS hO hs (by omega:t.length<=100);have hFm:=kl hf hN (by omega:t.length<=1500);have hlo:=rT (n:=n) (n':=n') (s:=s) (t:=t) m;have hmul:m*(3+t.length)<=100:=Nat.le_trans (Nat.mul_le_mul (show m<=4 by omega) (show 3+t.length<=19 by omega)) om;have hno:=uN (n:=n) (n':=n') (s:=s) (t:=t) m;have hlB:=kx (n:=n') (f:=((m+1:Nat):Int)) (s:=bW ((m+1:Nat):Int) s) (t:=t) (k:=t.length);have hcs:gF n n' s t (m+1)=gF n n' s t m++xX n n' s t ((m+1:Nat):Int):=rfl;unfold xX at hcs;generalize fD n' ((m+1:Nat):Int) (bW ((m+1:Nat):Int) s) t t.length=B at *;generalize bE n' ((m+1:Nat):Int) t=F at *;generalize gF n n' s t m=o at *;cases o with
  | nil=>
   have hnc:aK (([]:List Ckt).flatMap cC)=true:=rfl;repeat' ((conv=>whnf);first|refine cm.weak (x:=Code.seq (Code.block 1 _) _) aA T0 (s0:=⟨tmp 43 [(2,.iptr (nmC n)),(3,.iptr [aF t]),(5,aO),(6,.iptr [i64 ((m+1:Nat):Int)])],⟨0,[]⟩⟩) ?_ ?_|exact kQ|(refine bk ?_ ?_<;>intro _<;>try(exfalso;omega))|refine stq ?_|refine cp hB ?_|refine cp hFm ?_|refine Chk.growX 8 1 rfl rfl om om (by first|(simp;done)|exact kD rfl) ?_|refine Chk.growX 8 3 rfl rfl om om (by first|(simp;done)|exact kD rfl) ?_|fail)
   ·exact lq [] [1]
   all_goals(conv=>whnf)
   refine aH.by aA T0 (λk:Nat=>⟨tmp 43 [(2,.iptr (nmC n)),(3,.iptr [aF t]),(5,.sl 0 0 (wk [] n ((m+1:Nat):Int) t F B k).length (wk [] n ((m+1:Nat):Int) t F B k).length 1 false),(6,.iptr [i64 ((m+1:Nat):Int)]),(7,.iptr [aF F]),(27,aF B),(28,i64 (B.length:Int)),(29,i64 (k:Int))],⟨1,[(0,.cells ((wk [] n ((m+1:Nat):Int) t F B k).flatMap cC) false)]⟩⟩) (λk=>k<=B.length) (λk=>B.length-k) 0 om ?_ ?_
   ·exact lq [(0,11)] [4]
   intro k hk;have hw1:=HE (o:=[]) (n:=n) (f:=((m+1:Nat):Int)) (t:=t) (F:=F) (B:=B) (k:=k);have hw2:=Cj (o:=[]) (n:=n) (f:=((m+1:Nat):Int)) (t:=t) (F:=F) (B:=B) (k:=k);have hw3:=Ft (HN (n:=n) (f:=((m+1:Nat):Int)) (t:=t) (F:=F) (B:=B) (k:=k) hno);by_cases hk2:k<B.length
   ·by_cases hp:0<B[k]
    ·have hs1:=Ci (o:=[]) (n:=n) (f:=((m+1:Nat):Int)) (t:=t) (F:=F) hk2 hp;generalize wk [] n ((m+1:Nat):Int) t F B k=W at *;repeat' ((conv=>whnf);first|exact kQ|(refine bk ?_ ?_<;>intro _<;>try(exfalso;omega))|refine stq ?_|refine Chk.growX 8 1 rfl rfl om om (by first|(simp;done)|exact kD rfl) ?_|refine Chk.mk ⟨by omega,by omega,by rw[mN,List.length_map];omega⟩ ?_|fail)
     all_goals(conv=>whnf)
     refine⟨k+1,by omega,by omega,?_⟩;simp only[hs1];exact lq [(0,11)] [4]
    ·have hs1:=HD (o:=[]) (n:=n) (f:=((m+1:Nat):Int)) (t:=t) (F:=F) hk2 hp;generalize wk [] n ((m+1:Nat):Int) t F B k=W at *;repeat' ((conv=>whnf);first|exact kQ|(refine bk ?_ ?_<;>intro _<;>try(exfalso;omega))|refine stq ?_|fail)
     all_goals(conv=>whnf)
     refine⟨k+1,by omega,by omega,?_⟩;simp only[hs1];exact lq [(0,0)] []
   ·obtain rfl:k=B.length:=by omega
    have hwe:gF n n' s t (m+1)=wk [] n ((m+1:Nat):Int) t F B B.length:=by rw[hcs,Ck]
    generalize wk [] n ((m+1:Nat):Int) t F B B.length=W at *;cases W with
    | nil=>simp at hw2
    | cons y ys=>
     repeat' ((conv=>whnf);first|exact kQ|(refine bk ?_ ?_<;>intro _<;>try(exfalso;omega))|refine stq ?_|fail)
     all_goals(conv=>whnf)
     refine⟨m+1,by omega,by omega,?_⟩;simp only[hwe];exact lq [(0,0),(1,3)] []
  | cons x xs=>
   have hxl:(x::xs).length=xs.length+1:=rfl;have hnc:=Ft hno;repeat' ((conv=>whnf);first|refine cm.weak (x:=Code.seq (Code.block 1 _) _) aA T0 (s0:=⟨tmp 43 [(2,.iptr (nmC n)),(3,.iptr [aF t]),(5,.sl 0 0 (x::xs).length (x::xs).length 1 false),(6,.iptr [i64 ((m+1:Nat):Int)])],⟨1,[(0,.cells ((x::xs).flatMap cC) false)]⟩⟩) ?_ ?_|exact kQ|(refine bk ?_ ?_<;>intro _<;>try(exfalso;omega))|refine stq ?_|refine cp hB ?_|refine cp hFm ?_|refine Chk.growX 8 1 rfl rfl om om (by first|(simp;done)|exact kD rfl) ?_|refine Chk.growX 8 3 rfl rfl om om (by first|(simp;done)|exact kD rfl) ?_|fail)
   ·exact lq [(0,0)] [1]
   all_goals(conv=>whnf)
   refine aH.by aA T0 (λk:Nat=>⟨tmp 43 [(2,.iptr (nmC n)),(3,.iptr [aF t]),(5,.sl 0 0 (wk (x::xs) n ((m+1:Nat):Int) t F B k).length (wk (x::xs) n ((m+1:Nat):Int) t F B k).length 1 false),(6,.iptr [i64 ((m+1:Nat):Int)]),(7,.iptr [aF F]),(27,aF B),(28,i64 (B.length:Int)),(29,i64 (k:Int))],⟨1,[(0,.cells ((wk (x::xs) n ((m+1:Nat):Int) t F B k).flatMap cC) false)]⟩⟩) (λk=>k<=B.length) (λk=>B.length-k) 0 om ?_ ?_
   ·exact lq [(0,12)] [5]
   intro k hk;have hw1:=HE (o:=(x::xs)) (n:=n) (f:=((m+1:Nat):Int)) (t:=t) (F:=F) (B:=B) (k:=k);have hw2:=Cj (o:=(x::xs)) (n:=n) (f:=((m+1:Nat):Int)) (t:=t) (F:=F) (B:=B) (k:=k);have hw3:=Ft (HN (n:=n) (f:=((m+1:Nat):Int)) (t:=t) (F:=F) (B:=B) (k:=k) hno);by_cases hk2:k<B.length
   ·by_cases hp:0<B[k]
    ·have hs1:=Ci (o:=(x::xs)) (n:=n) (f:=((m+1:Nat):Int)) (t:=t) (F:=F) hk2 hp;generalize wk (x::xs) n ((m+1:Nat):Int) t F B k=W at *;repeat' ((conv=>whnf);first|exact kQ|(refine bk ?_ ?_<;>intro _<;>try(exfalso;omega))|refine stq ?_|refine Chk.growX 8 1 rfl rfl om om (by first|(simp;done)|exact kD rfl) ?_|refine Chk.mk ⟨by omega,by omega,by rw[mN,List.length_map];omega⟩ ?_|fail)
     all_goals(conv=>whnf)
     refine⟨k+1,by omega,by omega,?_⟩;simp only[hs1];exact lq [(0,11)] [4]
    ·have hs1:=HD (o:=(x::xs)) (n:=n) (f:=((m+1:Nat):Int)) (t:=t) (F:=F) hk2 hp;generalize wk (x::xs) n ((m+1:Nat):Int) t F B k=W at *;repeat' ((conv=>whnf);first|exact kQ|(refine bk ?_ ?_<;>intro _<;>try(exfalso;omega))|refine stq ?_|fail)
     all_goals(conv=>whnf)
     refine⟨k+1,by omega,by omega,?_⟩;simp only[hs1];exact lq [(0,0)] []
   ·obtain rfl:k=B.length:=by omega
    have hwe:gF n n' s t (m+1)=wk (x::xs) n ((m+1:Nat):Int) t F B B.length:=by rw[hcs,Ck]
    generalize wk (x::xs) n ((m+1:Nat):Int) t F B B.length=W at *;cases W with
    | nil=>simp at hw2
    | cons y ys=>
     repeat' ((conv=>whnf);first|exact kQ|(refine bk ?_ ?_<;>intro _<;>try(exfalso;omega))|refine stq ?_|fail)
     all_goals(conv=>whnf)
     refine⟨m+1,by omega,by omega,?_⟩;simp only[hwe];exact lq [(0,0),(1,3)] []
 ·obtain rfl:m=4:=by omega
  have hlo:=rT (n:=n) (n':=n') (s:=s) (t:=t) 4;have hno:=uN (n:=n) (n':=n') (s:=s) (t:=t) 4;have hh:=held_l (o:=gF n n' s t 4) om hno (Ag hN hS hO hs ht 4 om)
  have hl3:3<=(gF n n' s t 4).length:=by
   rw[gF,xX,kG,kG];simp only[kO,List.length_nil];omega
  have hnc:=Ft hno;generalize gF n n' s t 4=o at *;cases o with
  | nil=>simp at hl3
  | cons x xs=>
   repeat' ((conv=>whnf);first|exact kQ|(refine bk ?_ ?_<;>intro _<;>try(exfalso;omega))|refine stq ?_|refine Cll.give (.cons (frz_k rfl rfl rfl rfl hnc) .nil) hh ?_|fail)
   all_goals(conv=>whnf)
   exact aE.int rfl
end
end
end Go.Proofs.YtihggclfifimoaaGreatDoor
