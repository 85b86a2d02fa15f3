/-
  The statement ClustersShorter over data.
-/
import Derived.Test.YtjpgpihbhicinaaGreatDoorL6
set_option linter.unusedSectionVars false
namespace Go.Proofs.YtjpgpihbhicinaaGreatDoor
open Go Go.Am Classical
set_option maxRecDepth 1000000
theorem wh:∀ (b:List Int) (s:Int) (k:Nat),s≤bK s (btw s b) k
 | [],s,k=>by cases k<;>exact Int.le_refl _
 | x::b,s,k=>by
  by_cases h:s<x
  ·rw[ez h];cases k with
   | zero=>exact Int.le_refl _
   | succ k=>have:=wh b x k;simp only[bK];omega
  ·rw[gH h];exact wh b s k
def jC (e:Int) (b:List Int):List Int:=b.filter fun x=>decide (x<e)
theorem iy {b:List Int}{e:Int}(h:∀ a∈b,e≤a):jC e b=[]:=List.filter_eq_nil_iff.2 fun a ha=>by have:=h a ha;simpa using this
theorem sA {x e:Int}{b:List Int}(h:x<e):jC e (x::b)=x::jC e b:=List.filter_cons_of_pos (by simpa using h)
theorem vF {x e:Int}{b:List Int}(h:¬x<e):jC e (x::b)=jC e b:=List.filter_cons_of_neg (by simpa using h)
theorem sB (e:Int) (a b:List Int):jC e (a++b)=jC e a++jC e b:=List.filter_append ..
theorem qU:∀ (b:List Int) (s:Int) (k:Nat),(s::b).Pairwise (·≤·)→k≤(btw s b).length→(btw s b).take k=btw s (jC (bK s (btw s b) k) b++[bK s (btw s b) k])
 | [],s,k,_,h=>by
  have:k=0:=by simpa [btw] using h
  subst this;simp[btw,bK,jC]
 | x::b,s,k,hp,h=>by
  have hp1:=List.pairwise_cons.1 hp;have hp2:=List.pairwise_cons.1 hp1.2;have hx:=hp1.1 x (by simp);by_cases hs:s<x
  ·rw[ez hs] at h ⊢;cases k with
   | zero=>
    have e0:bK s (⟨s,x⟩::btw x b) 0=s:=rfl;rw[e0,List.take_zero,iy hp1.1,List.nil_append,gH (Int.lt_irrefl _)];rfl
   | succ k=>
    have ih:=qU b x k hp1.2 (by simpa using h);have hge:=wh b x k;have e0:bK s (⟨s,x⟩::btw x b) (k+1)=bK x (btw x b) k:=rfl;rw[e0,List.take_succ_cons,ih];by_cases he:x<bK x (btw x b) k
    ·rw[sA he,List.cons_append,ez hs]
    ·have hxe:bK x (btw x b) k=x:=by omega
     rw[hxe,vF (Int.lt_irrefl _),iy hp2.1,List.nil_append,ez hs,gH (Int.lt_irrefl _)]
  ·have hsx:s=x:=by omega
   subst hsx;rw[gH hs] at h ⊢;rw[qU b s k hp1.2 h];by_cases he:s<bK s (btw s b) k
   ·rw[sA he,List.cons_append,gH hs]
   ·rw[vF he]
theorem tT:∀ (b:List Int) (s e:Int),btw s (b++[e]++[e])=btw s (b++[e])
 | [],s,e=>by
  by_cases h:s<e
  ·simp[btw,h]
  ·simp[btw,h]
 | x::b,s,e=>by
  simp only[List.cons_append];by_cases h:s<x
  ·rw[ez h,ez h,tT b x e]
  ·rw[gH h,gH h,tT b s e]
theorem kZ (l:List Int) (k:Nat):dL l (k+1)=dL l k++(if l.getD k 0≠1 then [(k:Int)] else []):=by
 unfold dL;rw[List.range_succ,List.filter_append,List.map_append];by_cases h:l.getD k 0=1
 ·have e:decide (l.getD k 0≠1)=false:=decide_eq_false fun hn=>hn h
  rw[if_neg fun hn=>hn h];simp only[List.filter,e,List.map_nil]
 ·have e:decide (l.getD k 0≠1)=true:=decide_eq_true h;rw[if_pos h];simp only[List.filter,e,List.map_cons,List.map_nil]
theorem Dj (l:List Int) (k:Nat):∀ a∈dL l k,a<(k:Int):=fun a ha=>by
 simp only[dL,List.mem_map,List.mem_filter,List.mem_range] at ha;obtain⟨i,⟨h1,_⟩,rfl⟩:=ha;omega
theorem n9 (l:List Int) (k:Nat):∀ j,jC k (dL l (k+j))=dL l k
 | 0=>List.filter_eq_self.2 fun a ha=>by simpa using Dj l k a ha
 | j+1=>by
  rw[←Nat.add_assoc,kZ,sB,n9 l k j];split
  ·rw[iy (by simp;omega),List.append_nil]
  ·simp[jC]
theorem qM {l m:List Int}:∀ {k:Nat},(∀ i,i<k→l.getD i 0=m.getD i 0)→dL l k=dL m k
 | 0,_=>rfl
 | k+1,h=>by rw[kZ,kZ,qM fun i hi=>h i (by omega),h k (by omega)]
theorem vK {t:Tbl}{l:List Int}{k:Nat}(h:k≤l.length):(acts t l).getD k 0=yG t l k:=by
 rw[ac (by rw[dR];omega)];simp[acts]
theorem t6 (N:List (List Int)) (l:List Int) (n:Nat):∀ k,k≤n→stL N (l.take n) k=stL N l k
 | 0,_=>rfl
 | k+1,h=>by
  simp only[stL];rw[t6 N l n k (by omega)];congr 1;simp only[List.getD];rw[List.getElem?_take_of_lt (by omega)]
theorem one_B:(List.range cl1.length).all (fun c=>Nat.ble (zS RN1 c).length 1)=true:=by kernel_rfl
theorem one_at {c x y:Nat}(hc:c<cl1.length) (hx:x∈zS RN1 c) (hy:y∈zS RN1 c):x=y:=by
 have h:=kD (List.all_eq_true.1 one_B c (List.mem_range.2 hc))
 match e:zS RN1 c with
 | []=>rw[e] at hx;cases hx
 | [a]=>rw[e] at hx hy;simp at hx hy;omega
 | _::_::_=>rw[e] at h;simp at h
theorem CB {l:List Int}(hc:CL l cl1.length){n k:Nat}(hn:n≤l.length) (hk:k<n):yG t1 (l.take n) k=yG t1 l k:=by
 letI:=gtR;have hlen:(l.take n).length=n:=by rw[List.length_take];omega
 have hc2:CL (l.take n) cl1.length:=fun i h=>by rw[List.getElem_take];exact hc i (by omega)
 obtain⟨c,e⟩:∃ c:Nat,l[k]'(by omega)=(c:Int):=⟨(l[k]'(by omega)).toNat,by have:=hc k (by omega);omega⟩;have hcl:c<cl1.length:=by have:=(hc k (by omega)).2;omega
 obtain⟨x,m1,e1⟩:=rJ tv1.1 hc (by omega:k<l.length) e;obtain⟨y,m2,e2⟩:=rJ tv1.1 hc2 (by omega:k<(l.take n).length) (by rw[List.getElem_take];exact e);have:=one_at hcl m1 m2
 subst this;unfold yG;rw[t6 _ _ _ _ (by omega)];rw[t1];rw[e1,e2]
theorem yd {p:Prp}{text:List Int}{k:Nat}(hk:k≤(fC p t1 text).length):fC p t1 (text.take (bK 0 (fC p t1 text) k).toNat)=(fC p t1 text).take k:=by
 letI:=gtR;have hch:=ly (p:=p) (text:=text) tv1.1;have hle:=cQ k hch
 have hA:∀ text:List Int,fC p t1 text=btw 0 (dL (acts t1 (bD p t1.classes text)) (text.length+1)++[(text.length:Int)]):=fun text=>by
  rw[fC,if_pos tv1.1,nQ,i4,if_pos tv1.1,dR];simp[bD]
 have hP:=hA text;have hCL:CL (bD p t1.classes text) cl1.length:=ph (t:=t1) tv1.1;have hnl:(bD p t1.classes text).length=text.length:=by simp[bD]
 have hsrt:(0::(dL (acts t1 (bD p t1.classes text)) (text.length+1)++[(text.length:Int)])).Pairwise (·≤·):=by
  have:=xn (A:=acts t1 (bD p t1.classes text)) (n:=text.length) (by rw[dR,hnl])
  rwa [show(acts t1 (bD p t1.classes text)).length=text.length+1 by rw[dR,hnl]] at this
 have hT:=qU _ 0 k hsrt (by rw[←hP];exact hk);rw[←hP] at hT;generalize hen:(bK 0 (fC p t1 text) k).toNat=en at *;have hee:bK 0 (fC p t1 text) k=(en:Int):=by omega
 have hcm:(text.take en).length=en:=by rw[List.length_take];omega
 have hnm:bD p t1.classes (text.take en)=(bD p t1.classes text).take en:=by simp[bD,List.map_take]
 rw[hT,hee,hA (text.take en),hcm,hnm,sB,iy (b:=[(text.length:Int)]) (by simp;omega),List.append_nil];rw[show text.length+1=en+(text.length+1-en) by omega,n9,kZ]
 have hcg:dL (acts t1 ((bD p t1.classes text).take en)) en=dL (acts t1 (bD p t1.classes text)) en:=qM fun i hi=>by
  rw[vK (by rw[List.length_take];omega),vK (by omega),CB hCL (by omega) hi]
 rw[hcg];split
 ·exact tT _ _ _
 ·rw[List.append_nil]
set_option maxHeartbeats 8000000 in
theorem sho_c {d:Db}{text:List Int}{n m:Int}(ho:d.ok) (hx:text.length≤9223372036854775807) (hn:-9223372036854775808≤n∧n≤9223372036854775807) (hm:-9223372036854775808≤m∧m≤9223372036854775807):@Pu gtR Tryz.prog 8 [dbD d,aQ text,i64 n,i64 m] (boo true):=by
 letI:=gtR;have hal:=kg;by_cases hf:SmD d∧text.length≤12
 ·obtain⟨hs,h12⟩:=hf;have hF:=mP (text:=text) ho hs h12;by_cases hmn:n<m
  ·refine Pu.of_v aA T0 Tryz.func8 rfl rfl (by simp[aH,aC,aG,aJ,aP,aO,aD]) ?_;repeat' ((conv=>whnf)<;>(first|refine aE.go aA T0 ?_|exact kQ|(refine Br.mk (fun _=>?_) (fun _=>?_)<;>(try(exfalso;omega)))|refine stq ?_|refine Cll.pu (hF) ?_|refine aW.pu (hF) ?_|refine Cll.pu (hal) ?_|refine aW.pu (hal) ?_))
   all_goals(conv=>whnf)
   all_goals exact aN.same rfl rfl
  by_cases hv:DbV d
  ·have g:Good d:=⟨ho,hs,hv⟩;have hP:=g.p1 (text:=text) (by omega);have hc:=tD d text;have hT1:=i5 (n:=n) hP hc (by omega) hn.2;have hT3:=i5 (n:=m) hP hc (by omega) hm.2;have hpl:=fR hc;have hle:=cQ n.toNat hc;have hmo:=rv (k:=m.toNat) (n:=n.toNat) hc (by omega);have hm0:=cQ m.toNat hc;have hlaw:=yd (p:=prop d 3) (text:=text) (k:=min n.toNat (gP d text).length) (Nat.min_le_right _ _);rw[mQ] at hlaw;have hA:(text.take (bK 0 (gP d text) n.toNat).toNat).length=(bK 0 (gP d text) n.toNat).toNat:=by rw[List.length_take];omega
   have hQ:=g.p1 (text:=text.take (bK 0 (gP d text) n.toNat).toNat) (by omega);have hc2:=tD d (text.take (bK 0 (gP d text) n.toNat).toNat);have hT2:=i5 (n:=m) hQ hc2 (by omega) hm.2
   have hQl:(gP d (text.take (bK 0 (gP d text) n.toNat).toNat)).length=min n.toNat (gP d text).length:=by
    show(fC (prop d 3) t1 _).length=_;rw[hlaw,List.length_take];exact Nat.min_eq_left (Nat.min_le_right _ _)
   have hBC:(text.take (bK 0 (gP d text) n.toNat).toNat).take (bK 0 (gP d (text.take (bK 0 (gP d text) n.toNat).toNat)) m.toNat).toNat=text.take (bK 0 (gP d text) m.toNat).toNat:=by
    have e:bK 0 (gP d (text.take (bK 0 (gP d text) n.toNat).toNat)) m.toNat=bK 0 (gP d text) m.toNat:=by
     rw[show gP d (text.take (bK 0 (gP d text) n.toNat).toNat)=_ from hlaw,←mQ (P:=(gP d text).take _)];rw[qN (by rw[List.length_take];omega)];by_cases h:m.toNat≤(gP d text).length
     ·rw[show min m.toNat ((gP d text).take (min n.toNat (gP d text).length)).length=m.toNat by rw[List.length_take];omega]
     ·rw[show min m.toNat ((gP d text).take (min n.toNat (gP d text).length)).length=min m.toNat (gP d text).length by rw[List.length_take];omega,mQ]
    rw[e,List.take_take,Nat.min_eq_left (by omega)]
   rw[hBC] at hT2;have hE1:=ol (l:=text.take (bK 0 (gP d text) m.toNat).toNat) (by rw[List.length_take];omega);have hAt:text.take (text.take (bK 0 (gP d text) n.toNat).toNat).length=text.take (bK 0 (gP d text) n.toNat).toNat:=by rw[hA]
   generalize gP d (text.take (bK 0 (gP d text) n.toNat).toNat)=Q at *;generalize text.take (bK 0 (gP d text) n.toNat).toNat=a at *;generalize text.take (bK 0 (gP d text) m.toNat).toNat=c at *;generalize gP d text=P at *
   have eX:D.imm ((a.length:Int)-0).toNat (((text.map i64).drop ((0:Int).toNat*1)).take (((a.length:Int)-0).toNat*1))=aQ a:=by
    have:((a.length:Int)-0).toNat=a.length:=by omega
    rw[this]
    conv=>rhs;rw[←hAt]
    simp[lst,List.map_take];omega
   have hE2:=ol (l:=a) (by omega);have hE3:Pu Tryz.prog 16 [D.imm ((a.length:Int)-0).toNat (((text.map i64).drop ((0:Int).toNat*1)).take (((a.length:Int)-0).toNat*1)),aQ a] (boo true):=by rw[eX];exact hE2
   refine Pu.of_v aA T0 Tryz.func8 rfl rfl (by simp[aH,aC,aG,aJ,aP,aO,aD]) ?_;repeat' ((conv=>whnf)<;>(first|refine aE.go aA T0 ?_|exact kQ|(refine Br.mk (fun _=>?_) (fun _=>?_)<;>(try(exfalso;omega)))|refine stq ?_|refine Cll.pu (hF) ?_|refine aW.pu (hF) ?_|refine Cll.pu (hT1) ?_|refine aW.pu (hT1) ?_|refine Cll.pu (hT2) ?_|refine aW.pu (hT2) ?_|refine Cll.pu (hT3) ?_|refine aW.pu (hT3) ?_|refine Cll.pu (hP) ?_|refine aW.pu (hP) ?_|refine Cll.pu (hQ) ?_|refine aW.pu (hQ) ?_|refine Cll.pu (hE1) ?_|refine aW.pu (hE1) ?_|refine Cll.pu (hE3) ?_|refine aW.pu (hE3) ?_|refine Cll.pu (hal) ?_|refine aW.pu (hal) ?_|refine Chk.mk ⟨by omega,by omega,by omega,(by simp:(text.map i64).length=text.length*1)⟩ ?_))
   all_goals(conv=>whnf)
   all_goals exact aN.same rfl rfl
  ·have hP:=Dx (k:=1) (x:=aQ text) ho hs hv (aD _);have hN:=Dx (k:=1) (x:=aU) ho hs hv rfl;have hT1:=jz (n:=n) (.inl ⟨text,rfl⟩) (by decide) hP;have hT3:=jz (n:=m) (.inl ⟨text,rfl⟩) (by decide) hP;have hT2:=jz (n:=m) (x:=aU) (.inr rfl) (by decide) hN;have hE0:Pu Tryz.prog 16 [aU,aU] (boo true):=Pu.of_t aA T0 (sp:=fun _ _=>none) (fun _ _ _ h=>by cases h) rfl (by kernel_rfl:jB gtR Tryz.prog (iS Tryz.prog) (fun _ _=>none) 100 (.fn 16) [aU,aU] .emp 0 (fun d1 h1 _=>gk h1 100000 d1 (boo true))=true);have eX:D.imm ((0:Int)-0).toNat (((text.map i64).drop ((0:Int).toNat*1)).take (((0:Int)-0).toNat*1))=.imm 0 []:=by simp
   have hE4:Pu Tryz.prog 16 [.imm 0 [],aU] (boo true):=Pu.of_t aA T0 (sp:=fun _ _=>none) (fun _ _ _ h=>by cases h) rfl (by kernel_rfl:jB gtR Tryz.prog (iS Tryz.prog) (fun _ _=>none) 100 (.fn 16) [.imm 0 [],aU] .emp 0 (fun d1 h1 _=>gk h1 100000 d1 (boo true))=true);have hE3:Pu Tryz.prog 16 [D.imm ((0:Int)-0).toNat (((text.map i64).drop ((0:Int).toNat*1)).take (((0:Int)-0).toNat*1)),aU] (boo true):=by rw[eX];exact hE4
   refine Pu.of_v aA T0 Tryz.func8 rfl rfl (by simp[aH,aC,aG,aJ,aP,aO,aD]) ?_;repeat' ((conv=>whnf)<;>(first|refine aE.go aA T0 ?_|exact kQ|(refine Br.mk (fun _=>?_) (fun _=>?_)<;>(try(exfalso;omega)))|refine stq ?_|refine Cll.pu (hF) ?_|refine aW.pu (hF) ?_|refine Cll.pu (hT1) ?_|refine aW.pu (hT1) ?_|refine Cll.pu (hT2) ?_|refine aW.pu (hT2) ?_|refine Cll.pu (hT3) ?_|refine aW.pu (hT3) ?_|refine Cll.pu (hP) ?_|refine aW.pu (hP) ?_|refine Cll.pu (hN) ?_|refine aW.pu (hN) ?_|refine Cll.pu (hE0) ?_|refine aW.pu (hE0) ?_|refine Cll.pu (hE3) ?_|refine aW.pu (hE3) ?_|refine Cll.pu (hal) ?_|refine aW.pu (hal) ?_|refine Chk.mk ⟨by omega,by omega,by omega,(by simp:(text.map i64).length=text.length*1)⟩ ?_))
   all_goals(conv=>whnf)
   all_goals exact aN.same rfl rfl
 ·have hF:=tG (text:=text) ho hf;refine Pu.of_v aA T0 Tryz.func8 rfl rfl (by simp[aH,aC,aG,aJ,aP,aO,aD]) ?_;repeat' ((conv=>whnf)<;>(first|refine aE.go aA T0 ?_|exact kQ|(refine Br.mk (fun _=>?_) (fun _=>?_)<;>(try(exfalso;omega)))|refine stq ?_|refine Cll.pu (hF) ?_|refine aW.pu (hF) ?_|refine Cll.pu (hal) ?_|refine aW.pu (hal) ?_))
  all_goals(conv=>whnf)
  exact aN.same rfl rfl
end Go.Proofs.YtjpgpihbhicinaaGreatDoor
