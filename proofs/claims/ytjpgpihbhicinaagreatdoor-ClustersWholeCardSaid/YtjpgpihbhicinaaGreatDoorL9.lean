/-
  The statement ClustersWhole over data.
-/
import Derived.Test.YtjpgpihbhicinaaGreatDoorL6
import Derived.Test.YtjpgpihbhicinaaGreatDoorHM2
import Derived.Test.YtjpgpihbhicinaaGreatDoorHM3
import Derived.Test.YtjpgpihbhicinaaGreatDoorHM
set_option linter.unusedSectionVars false
namespace Go.Proofs.YtjpgpihbhicinaaGreatDoor
open Go Go.Am Classical
set_option maxRecDepth 100000
theorem wg:∀ {b:List Int}{s:Int}{r:Rng},r∈btw s b→r.hi∈b
 | [],_,_,h=>by simp[btw] at h
 | x::b,s,r,h=>by
  by_cases hs:s<x
  ·rw[ez hs] at h;rcases List.mem_cons.1 h with rfl|h
   ·simp
   ·exact List.mem_cons_of_mem _ (wg h)
  ·rw[gH hs] at h;exact List.mem_cons_of_mem _ (wg h)
noncomputable def ik (s n:Int) (b:List Int):Nat:=b.countP fun x=>decide (s<x∧x<n)
theorem x8:∀ {b:List Int}{s n:Int},b.Pairwise (· < ·)→(∀ x∈b,s≤x∧x≤n)→s≤n→(btw s (b++[n])).length=ik s n b+(if s<n then 1 else 0)
 | [],s,n,_,_,_=>by
  by_cases h:s<n<;>simp[btw,ik,h]
 | x::b,s,n,hp,hm,hn=>by
  have hp1:=List.pairwise_cons.1 hp;have hx:=hm x (by simp);have hb:∀ y∈b,x≤y∧y≤n:=fun y hy=>⟨Int.le_of_lt (hp1.1 y hy),(hm y (List.mem_cons_of_mem _ hy)).2⟩
  have ih:=x8 (b:=b) (s:=x) (n:=n) hp1.2 hb hx.2;rw[List.cons_append];by_cases hs:s<x
  ·have e:ik s n b=ik x n b:=by
    refine List.countP_congr fun y hy=>?_
    have:=hp1.1 y hy
    simp only[decide_eq_true_eq];omega
   rw[ez hs,kO,ih,if_pos (by omega:s<n)]
   have e2:ik s n (x::b)=ik s n b+if x<n then 1 else 0:=by
    simp only[ik,List.countP_cons,hs,true_and,decide_eq_true_eq]
   rw[e2,e]
  ·have e0:x=s:=by omega
   subst e0;rw[gH hs,ih];congr 1;simp[ik]
theorem u0 (A:List Int) (k:Nat):(dL A k).Pairwise (· < ·):=by
 unfold dL;rw[List.pairwise_map];exact(List.Pairwise.filter _ List.pairwise_lt_range).imp fun h=>by omega
theorem DV {s n:Int}{l:List Int}{k:Nat}(h:k<l.length) (e:s<l[k]) (e2:l[k]<n):ik s n (l.take (k+1))=ik s n (l.take k)+1:=by
 rw[ik,List.take_add_one,List.getElem?_eq_getElem h,List.countP_append];simp[ik,e,e2]
theorem inn_no {s n:Int}{l:List Int}{k:Nat}(h:k<l.length) (e:¬(s<l[k]∧l[k]<n)):ik s n (l.take (k+1))=ik s n (l.take k):=by
 rw[ik,List.take_add_one,List.getElem?_eq_getElem h,List.countP_append];simp[ik,e]
theorem D0 {l:List Int}{x:Int}(hl:l.length≤1000):@Pu gtR Tryz.prog 24 [aQ l,i64 x] (boo (decide (x∈l))):=by
 letI:=gtR;refine Pu.of_v aA T0 Tryz.func24 rfl rfl (by simp[aH,aC,aD]) ?_;repeat' ((conv=>whnf)<;>(first|refine aE.go aA T0 ?_|exact kQ|(refine Br.mk (fun _=>?_) (fun _=>?_)<;>(try(exfalso;omega)))|refine stq ?_))
 refine aT.by aA T0 (fun(k:Nat)=>⟨tmp 18 [(0,aQ l),(1,i64 x),(5,i64 (k:Int))],⟨0,[]⟩⟩)
  (fun k=>k≤l.length∧∀ i (h:i<l.length),i<k→l[i]≠x) (fun k=>l.length-k) 0 ⟨by omega,fun _ _ h=>by omega⟩ ?_ ?_
 ·exact Lf.of2 [] [] enA bxA rfl rfl
 intro k ⟨h3,h4⟩;repeat' ((conv=>whnf)<;>(first|refine aE.go aA T0 ?_|exact kQ|(refine Br.mk (fun _=>?_) (fun _=>?_)<;>(try(exfalso;omega)))|refine stq ?_))
 all_goals(conv=>whnf)
 all_goals first
  | exact aN.yes (List.mem_iff_getElem.2 ⟨k,by omega,by assumption⟩)
  | (refine⟨k+1,⟨by omega,fun i h hi=>(by by_cases h5:i<k;exact h4 i h h5;obtain rfl:i=k:=(by omega);assumption)⟩,by omega,?_⟩
     exact Lf.of2 [] [] enA bxA rfl rfl)
  | exact aN.no (fun hm=>by obtain⟨i,hi,e⟩:=List.mem_iff_getElem.1 hm;exact h4 i hi (by omega) e)
theorem oW {d:Db}{k:Nat}{t:Tbl}{text:List Int}(g:Good d) (h12:text.length≤12) (hk:k=1∨k=2∨k=3∨k=4) (ht:TV t∧t.ok) (hT:@Pu gtR Tryz.prog 51 [i64 (k:Int)] (d7 t)):@Pu gtR Tryz.prog 7 [dbD d,i64 (k:Int),aQ text] (boo true):=by
 letI:=gtR;have hal:=kg;have hF:=mP (text:=text) g.ok g.sm h12;have hP:=g.prt (text:=text) hk ht.2 hT (by omega);have hs:=g.sm.2.1 (k+2) (by omega);have hB:=B2 (g.data hk hT) (ql (text:=text) (g.ok.prop (k+2)) ht.2 (by omega) (by omega) (by omega));have hc:Chn 0 (fC (prop d (k+2)) t text) text.length:=ly ht.1;have hA:(i4 (prop d (k+2)) t text).length=text.length+1:=by rw[i4,if_pos ht.1,dR];simp[bD]
 have hE:nQ (prop d (k+2)) t text=dL (i4 (prop d (k+2)) t text) (text.length+1):=by rw[nQ,hA]
 have hp:fC (prop d (k+2)) t text=btw 0 (nQ (prop d (k+2)) t text++[(text.length:Int)]):=by rw[fC,if_pos ht.1]
 have hm:∀ x∈nQ (prop d (k+2)) t text,0≤x∧x≤(text.length:Int):=fun x hx=>by
  rw[hE] at hx;simp only[dL,List.mem_map,List.mem_filter,List.mem_range] at hx;obtain⟨i,⟨h1,_⟩,rfl⟩:=hx;omega
 have hln:=x8 (n:=text.length) (by rw[hE];exact u0 _ _) hm (by omega);have hhi:∀ r∈btw 0 (nQ (prop d (k+2)) t text++[(text.length:Int)]),r.hi∈nQ (prop d (k+2)) t text++[(text.length:Int)]:=fun r hr=>wg hr
 have hEl:(nQ (prop d (k+2)) t text).length≤1000:=by have:=u3 (l:=i4 (prop d (k+2)) t text) (k:=text.length+1);rw[hE];omega
 rw[←hp] at hln hhi;have hpl:=fR hc;generalize fC (prop d (k+2)) t text=P at *;generalize nQ (prop d (k+2)) t text=E at *;have hend:=ji hc (kP _);refine Pu.of_v aA T0 Tryz.func7 rfl rfl (by simp[aH,aC,aG,aJ,aP,aO,aD]) ?_;repeat' ((conv=>whnf)<;>(first|refine aE.go aA T0 ?_|exact kQ|(refine Br.mk (fun _=>?_) (fun _=>?_)<;>(try(exfalso;omega)))|refine stq ?_|refine Cll.pu (hF) ?_|refine aW.pu (hF) ?_|refine Cll.pu (hP) ?_|refine aW.pu (hP) ?_|refine Cll.pu (hB) ?_|refine aW.pu (hB) ?_|fail))
 refine aT.by aA T0 (fun j:Nat=>⟨tmp 150 [(2,aQ text),(7,bQ P),(9,aQ E),(11,i64 (bK 0 P j)),(12,i64 (j:Int))],⟨0,[]⟩⟩)
  (fun j=>j≤P.length) (fun j=>P.length-j) 0 (by omega) ?_ ?_
 ·exact Lf.of2 [] [] (by repeat(first|exact aI.nil|refine aI.cons rfl (by first|exact Rd.int (by have:=@fb P 0;omega)|exact rdA|fail) ?_)) (by repeat(first|exact Bxs.nil|refine Bxs.cons rfl rfl rfl (by first|exact rbB|exact Rb.cells (by(repeat(first|exact Rds.nil|refine Rds.cons (by first|exact Rd.int (by have:=@fb P 0;omega)|exact rdA|fail) ?_|fail));(first|done|fail)) rfl|exact rbC|fail) ?_)) rfl rfl
 intro j h3;by_cases hj:j<P.length
 ·have hat:=gu hj hc;have hge:=jh (s:=0) hj;have hle:=(cQ j hc).1;by_cases hlt:P[j].hi<(text.length:Int)
  ·have hmem:P[j].hi∈E:=by
    rcases List.mem_append.1 (hhi P[j] (kM hj)) with h|h
    ·exact h
    ·simp at h;omega
   have hM:=D0 (l:=E) (x:=P[j].hi) hEl;rw[decide_eq_true hmem] at hM;repeat' ((conv=>whnf)<;>(first|refine aE.go aA T0 ?_|exact kQ|(refine Br.mk (fun _=>?_) (fun _=>?_)<;>(try(exfalso;omega)))|refine stq ?_|refine Cll.pu (hM) ?_|refine aW.pu (hM) ?_))
   all_goals(conv=>whnf)
   refine⟨j+1,by omega,by omega,?_⟩;exact Lf.of2 [] [] (by repeat(first|exact aI.nil|refine aI.cons rfl (by first|exact Rd.int (by omega)|exact rdA|fail) ?_)) (by repeat(first|exact Bxs.nil|refine Bxs.cons rfl rfl rfl (by first|exact rbB|exact Rb.cells (by(repeat(first|exact Rds.nil|refine Rds.cons (by first|exact Rd.int (by omega)|exact rdA|fail) ?_|fail));(first|done|fail)) rfl|exact rbC|fail) ?_)) rfl rfl
  ·repeat' ((conv=>whnf)<;>(first|refine aE.go aA T0 ?_|exact kQ|(refine Br.mk (fun _=>?_) (fun _=>?_)<;>(try(exfalso;omega)))|refine stq ?_))
   all_goals(conv=>whnf)
   refine⟨j+1,by omega,by omega,?_⟩;exact Lf.of2 [] [] (by repeat(first|exact aI.nil|refine aI.cons rfl (by first|exact Rd.int (by omega)|exact rdA|fail) ?_)) (by repeat(first|exact Bxs.nil|refine Bxs.cons rfl rfl rfl (by first|exact rbB|exact Rb.cells (by(repeat(first|exact Rds.nil|refine Rds.cons (by first|exact Rd.int (by omega)|exact rdA|fail) ?_|fail));(first|done|fail)) rfl|exact rbC|fail) ?_)) rfl rfl
 obtain rfl:j=P.length:=by omega
 repeat' ((conv=>whnf)<;>(first|refine aE.go aA T0 ?_|exact kQ|(refine Br.mk (fun _=>?_) (fun _=>?_)<;>(try(exfalso;omega)))|refine stq ?_|fail))
 refine aT.by2 aA T0 (fun(i:Nat) (c:Nat)=>⟨tmp 150 [(2,aQ text),(7,bQ P),(9,aQ E),(11,i64 text.length),(13,i64 (c:Int)),(14,i64 (i:Int))],⟨0,[]⟩⟩)
  (fun i c=>i≤E.length∧c=ik 0 text.length (E.take i)) (fun i _=>E.length-i) 0 0 ⟨by omega,by simp[ik]⟩ ?_ ?_
 ·exact Lf.of2 [] [] (by repeat(first|exact aI.nil|refine aI.cons rfl (by first|exact Rd.int (by omega)|exact rdA|fail) ?_)) (by repeat(first|exact Bxs.nil|refine Bxs.cons rfl rfl rfl (by first|exact rbB|exact Rb.cells (by(repeat(first|exact Rds.nil|refine Rds.cons (by first|exact Rd.int (by omega)|exact rdA|fail) ?_|fail));(first|done|fail)) rfl|exact rbC|fail) ?_)) rfl rfl
 intro i c ⟨h5,h6⟩;have hcl:c≤1000:=by have:=List.countP_le_length (l:=E.take i) (p:=fun x=>decide (0<x∧x<(text.length:Int)));simp only[List.length_take] at this;rw[h6,ik];omega
 by_cases hi:i<E.length
 ·repeat' ((conv=>whnf)<;>(first|refine aE.go aA T0 ?_|exact kQ|(refine Br.mk (fun _=>?_) (fun _=>?_)<;>(try(exfalso;omega)))|refine stq ?_))
  all_goals(conv=>whnf)
  all_goals first
   | (refine⟨i+1,c+1,⟨by omega,by rw[DV hi (by omega) (by omega)];omega⟩,by omega,?_⟩
      exact Lf.of2 [] [] enA bxA rfl rfl)
   | (refine⟨i+1,c,⟨by omega,by rw[inn_no hi (by omega)];omega⟩,by omega,?_⟩
      exact Lf.of2 [] [] enA bxA rfl rfl)
 rw[kE (by omega)] at h6;rw[←h6] at hln;by_cases h0:text.length=0
 ·rw[if_neg (by omega)] at hln;repeat' ((conv=>whnf)<;>(first|refine aE.go aA T0 ?_|exact kQ|(refine Br.mk (fun _=>?_) (fun _=>?_)<;>(try(exfalso;omega)))|refine stq ?_|refine Cll.pu (hal) ?_|refine aW.pu (hal) ?_))
  all_goals(conv=>whnf)
  exact aN.same rfl rfl
 ·rw[if_pos (by omega)] at hln;repeat' ((conv=>whnf)<;>(first|refine aE.go aA T0 ?_|exact kQ|(refine Br.mk (fun _=>?_) (fun _=>?_)<;>(try(exfalso;omega)))|refine stq ?_|refine Cll.pu (hal) ?_|refine aW.pu (hal) ?_))
  all_goals(conv=>whnf)
  exact aN.same rfl rfl
theorem tp {d:Db}{k e:Int}{text:List Int}(ho:d.ok) (hs:SmD d) (h12:text.length≤12) (h0:e≠0) (hd:@Pu gtR Tryz.prog 30 [dbD d,i64 k] (.tup [yl,yZ,i64 e])):@Pu gtR Tryz.prog 7 [dbD d,i64 k,aQ text] (boo true):=by
 letI:=gtR;have hal:=kg;have hF:=mP (text:=text) ho hs h12;have hP:=tR (aD text) h0 hd;have hB:=x7 (aD text) h0 hd;refine Pu.of_v aA T0 Tryz.func7 rfl rfl (by simp[aH,aC,aG,aJ,aP,aO,aD]) ?_;repeat' ((conv=>whnf)<;>(first|refine aE.go aA T0 ?_|exact kQ|(refine Br.mk (fun _=>?_) (fun _=>?_)<;>(try(exfalso;omega)))|refine stq ?_|refine Cll.pu (hF) ?_|refine aW.pu (hF) ?_|refine Cll.pu (hP) ?_|refine aW.pu (hP) ?_|refine Cll.pu (hB) ?_|refine aW.pu (hB) ?_|refine Cll.pu (hal) ?_|refine aW.pu (hal) ?_))
 all_goals(conv=>whnf)
 exact aN.same rfl rfl
theorem who_c {d:Db}{k:Int}{text:List Int}(ho:d.ok) (hk:-9223372036854775808≤k∧k≤9223372036854775807) (_hx:text.length≤9223372036854775807):@Pu gtR Tryz.prog 7 [dbD d,i64 k,aQ text] (boo true):=by
 letI:=gtR;by_cases hf:SmD d∧text.length≤12
 ·by_cases hv:DbV d
  ·have g:Good d:=⟨ho,hf.1,hv⟩;by_cases hr:1≤k∧k≤4
   ·rcases(by omega:k=1∨k=2∨k=3∨k=4) with rfl|rfl|rfl|rfl
    ·exact oW (k:=1) g hf.2 (by omega) tv1 zy
    ·exact oW (k:=2) g hf.2 (by omega) tv2 wx
    ·exact oW (k:=3) g hf.2 (by omega) tv3 tabk3
    ·exact oW (k:=4) g hf.2 (by omega) tv4 tabk4
   ·exact tp ho hf.1 hf.2 (by decide) (r4 g.chk hr)
  ·exact tp ho hf.1 hf.2 (by decide) (jk ho hf.1 hv)
 ·have hal:=kg;have hF:=tG (text:=text) ho hf;refine Pu.of_v aA T0 Tryz.func7 rfl rfl (by simp[aH,aC,aG,aJ,aP,aO,aD]) ?_;repeat' ((conv=>whnf)<;>(first|refine aE.go aA T0 ?_|exact kQ|(refine Br.mk (fun _=>?_) (fun _=>?_)<;>(try(exfalso;omega)))|refine stq ?_|refine Cll.pu (hF) ?_|refine aW.pu (hF) ?_|refine Cll.pu (hal) ?_|refine aW.pu (hal) ?_))
  all_goals(conv=>whnf)
  exact aN.same rfl rfl
end Go.Proofs.YtjpgpihbhicinaaGreatDoor
