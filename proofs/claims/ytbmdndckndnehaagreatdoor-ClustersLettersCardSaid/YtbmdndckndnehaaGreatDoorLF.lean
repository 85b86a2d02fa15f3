/-
  The statement ClustersLetters over data.
-/
import Derived.Test.YtbmdndckndnehaaGreatDoorLA
import Derived.Test.YtbmdndckndnehaaGreatDoorLD
import Derived.Test.YtbmdndckndnehaaGreatDoorLK2
set_option linter.unusedSectionVars false
namespace Go.Proofs.YtbmdndckndnehaaGreatDoor
open Go Go.Am Classical
set_option maxRecDepth 100000
theorem xLF.rdX {p:Prop}(h:p:=by first|exact Rd.int om|exact Rd.same rfl|exact Rd.sl' rfl sim sim|fail):p:=h
theorem xLF.rbX {p:Prop}(h:p:=by first|exact Rb.cells (Rds.same (dH _)) rfl|exact Rb.cells (Rds.eqs (ad (c:=b7) (sz:=2) (by intro _;rfl) (x::xs) P[i]) (aE (by intro _;rfl) _)) rfl|fail):p:=h
open xLF
theorem rlet_c {d:Db}{c:Int}{cl:List Str}{rs:List Rul}{t:Tbl}(R:RK 2 cl rs t) (ho:d.ok) (hl1:1<=cl.length):@Pu gtR Tryz.prog 48 [dbD d,i64 c] (boo (decide (ee cl (fg cl (gv (prop d 4) c))))):=by
 letI:=gtR;have h1:Pu Tryz.prog 70 [i64 2] (strs cl):=R.rcls;have h2:Pu Tryz.prog 41 [dbD d,i64 2,i64 c] (i64 (fg cl (gv (prop d 4) c))):=zp (k:=2) R ho;have hr:=rE (s:=gv (prop d 4) c) hl1;generalize gv (prop d 4) c=s at *;obtain⟨n,hn⟩:∃ n:Nat,fg cl s=(n:Int):=⟨(fg cl s).toNat,by omega⟩;rw[hn] at h2 hr ⊢;have hnl:n<cl.length:=by omega
 have e:ee cl (n:Int)=D8 cl[n]:=by rw[ee,Int.toNat_natCast,aJ hnl]
 rw[show decide (ee cl (n:Int))=decide (D8 cl[n]) by simp only[e]];refine pv Tryz.func48 ?_;repeat' ((conv=>whnf);first|refine Idx.at (f:=D.str) (l:=cl) n om om ?_|exact kQ|(refine bk ?_ ?_<;>intro _<;>try(exfalso;omega))|refine stq ?_|refine aj.by aB T0 [0,0,0,7,15,31,63] (by kernel_rfl) ?_|refine cp h1 ?_|refine cp h2 ?_|fail)
 all_goals(conv=>whnf)
 all_goals first
  | exact aC.yes (.inl asm)
  | exact aC.yes (.inr (.inl asm))
  | exact aC.yes (.inr (.inr (.inl asm)))
  | exact aC.yes (.inr (.inr (.inr asm)))
  | exact aC.no (λhc=>by rcases hc with h|h|h|h<;>contradiction)
theorem AN {cl:List Str}{cs:List Int}{r:Rng}{k:Nat}(hk:k<cs.length) (h0:0<=r.lo) (h1:r.lo<=k) (h2:(k:Int)<r.hi) (h:ee cl cs[k]):sD cl cs r:=by
 refine⟨cs[k],List.mem_iff_getElem.2 ⟨k-r.lo.toNat,by simp;omega,?_⟩,h⟩;simp only[pce,List.getElem_take,List.getElem_drop];congr 1;omega
theorem ER {cl:List Str}{cs:List Int}{r:Rng}(h0:0<=r.lo) (h:∀ k (hk:k<cs.length),r.lo<=k->(k:Int)<r.hi->¬ee cl cs[k]):¬sD cl cs r:=by
 rintro⟨x,hx,hl⟩;obtain⟨j,hj,rfl⟩:=List.mem_iff_getElem.1 hx;simp only[pce,List.length_take,List.length_drop] at hj;simp only[pce,List.getElem_take,List.getElem_drop] at hl;exact h _ om om om hl
theorem GC {d:Db}{e:Int}{text:List Int}(hP:@Pu gtR Tryz.prog 18 [dbD d,i64 2,aF text] (.tup [aI,i64 e])):@Pu gtR Tryz.prog 21 [dbD d,aF text] (.tup [aI,i64 e]):=by
 letI:=gtR;refine pv Tryz.func21 ?_;repeat' ((conv=>whnf);first|exact kQ|(refine bk ?_ ?_<;>intro _<;>try(exfalso;omega))|refine stq ?_|refine cp hP ?_|fail)
 refine aH.by aB T0 (λ_:Nat=>⟨tmp 52 [(6,aI),(7,i64 e),(8,aI),(9,i64 0)],⟨0,[]⟩⟩) (λ_=>True) (λ_=>0) 0 trivial ?_ ?_
 ·exact lq0
 intro k _;repeat' ((conv=>whnf);first|exact kQ|(refine bk ?_ ?_<;>intro _<;>try(exfalso;omega))|refine stq ?_)
 all_goals(conv=>whnf)
 exact⟨Rd.eqd rfl rfl⟩
set_option maxHeartbeats 8000000 in
theorem DV {d:Db}{cl:List Str}{text:List Int}{P:List Rng}(_ho:d.ok) (hP:@Pu gtR Tryz.prog 18 [dbD d,i64 2,aF text] (.tup [ay P,i64 0])) (hc:Chn 0 P text.length) (hx:text.length<=900) (hL:∀ c:Int,@Pu gtR Tryz.prog 48 [dbD d,i64 c] (boo (decide (ee cl (fg cl (gv (prop d 4) c)))))):@Pu gtR Tryz.prog 21 [dbD d,aF text] (.tup [ay (P.filter λr=>decide (sD cl (ao (prop d 4) cl text) r)),i64 0]):=by
 letI:=gtR;have hpl:=jR hc;have hnl:(ao (prop d 4) cl text).length=text.length:=by simp[ao]
 have hL2:∀ k (h:k<text.length),Pu Tryz.prog 48 [dbD d,i64 text[k]] (boo (decide (ee cl ((ao (prop d 4) cl text)[k]'(by rw[hnl];exact h))))):=λk h=>by
  have:=hL text[k]
  simp only[ao,List.getElem_map];exact this
 generalize ao (prop d 4) cl text=cs at *;refine pv Tryz.func21 ?_;repeat' ((conv=>whnf);first|exact kQ|(refine bk ?_ ?_<;>intro _<;>try(exfalso;omega))|refine stq ?_|refine cp hP ?_|fail)
 refine aH.by2 aB T0 (λ(i:Nat) (o:List Rng)=>⟨tmp 52 [(1,aF text),(2,.ptr 0 0),(6,ay P),(7,i64 0),(8,aS 1 2 o),(9,i64 (i:Int))],⟨2,bq 1 b7 o++[(0,.cells (dbC d) true)]⟩⟩)
  (λi o=>i<=P.length∧o=(P.take i).filter λr=>decide (sD cl cs r)) (λi _=>P.length-i) 0 [] ⟨by omega,rfl⟩ ?_ ?_
 ·exact lq [(0,_)] []
 intro i o ⟨h3,h4⟩;have hol:o.length<=i:=by rw[h4];refine Nat.le_trans (List.length_filter_le _ _) (by simp;omega)
 by_cases hi:i<P.length
 ·have hat:=mP hi hc;have hle:=(fj i hc).1;have hs2:=o8 (q:=λr=>decide (sD cl cs r)) hi;rw[<-h4] at hs2;cases o with
  | nil=>
   repeat' ((conv=>whnf);first|exact kQ|(refine bk ?_ ?_<;>intro _<;>try(exfalso;omega))|refine stq ?_|fail)
   refine aH.by aB T0 (λk:Nat=>⟨tmp 52 [(1,aF text),(2,.ptr 0 0),(6,ay P),(7,i64 0),(8,aS 1 2 ([]:List Rng)),(9,i64 (i:Int)),(10,i64 (k:Int))],⟨2,bq 1 b7 ([]:List Rng)++[(0,.cells (dbC d) true)]⟩⟩)
    (λk=>P[i].lo<=(k:Int)∧(k:Int)<=P[i].hi∧∀ j (hj:j<cs.length),P[i].lo<=(j:Int)->j<k->¬ee cl cs[j]) (λk=>P[i].hi.toNat-k) P[i].lo.toNat ⟨by omega,by omega,λ_ _ _ _=>by omega⟩ ?_ ?_
   ·exact lq [(0,_)] []
   intro k ⟨h5,h6,h7⟩;by_cases hk:(k:Int)<P[i].hi
   ·have hkt:k<text.length:=by omega
    have hq:=hL2 k hkt;by_cases hb:ee cl (cs[k]'(by omega))
    ·rw[decide_eq_true hb] at hq;have hy:=AN (r:=P[i]) om om h5 hk hb;simp only[decide_eq_true hy,if_true] at hs2;repeat' ((conv=>whnf);first|refine Idx.at (f:=i64) (l:=text) k om om ?_|exact kQ|(refine bk ?_ ?_<;>intro _<;>try(exfalso;omega))|refine stq ?_|refine aj.by aB T0 [0,0,0,6,14,31] (by kernel_rfl) ?_|refine cp hq ?_|fail)
     all_goals(conv=>whnf)
     refine⟨i+1,_,⟨by omega,hs2.symm⟩,by omega,?_⟩;exact lq [(0,_),(1,_)] []
    ·rw[decide_eq_false hb] at hq;repeat' ((conv=>whnf);first|refine Idx.at (f:=i64) (l:=text) k om om ?_|exact kQ|(refine bk ?_ ?_<;>intro _<;>try(exfalso;omega))|refine stq ?_|refine aj.by aB T0 [0,0,0,6,14,31] (by kernel_rfl) ?_|refine cp hq ?_|fail)
     all_goals(conv=>whnf)
     refine⟨k+1,⟨by omega,by omega,λj hj h8 h9=>(by by_cases h10:j<k;exact h7 j hj h8 h10;obtain rfl:j=k:=om;exact hb)⟩,by omega,?_⟩;exact lq [(0,_)] []
   ·have hn:=ER (cl:=cl) (cs:=cs) (r:=P[i]) om (λj hj h8 h9=>h7 j hj h8 om);simp only[decide_eq_false hn,Bool.false_eq_true,if_false,List.append_nil] at hs2;repeat' ((conv=>whnf);first|exact kQ|(refine bk ?_ ?_<;>intro _<;>try(exfalso;omega))|refine stq ?_|fail)
    all_goals(conv=>whnf)
    refine⟨i+1,([]:List Rng),⟨by omega,hs2.symm⟩,by omega,?_⟩;exact lq [(0,_)] []
  | cons x xs=>
   have hlen:(x::xs).length<=1001:=by omega
   repeat' ((conv=>whnf);first|exact kQ|(refine bk ?_ ?_<;>intro _<;>try(exfalso;omega))|refine stq ?_|fail)
   refine aH.by aB T0 (λk:Nat=>⟨tmp 52 [(1,aF text),(2,.ptr 0 0),(6,ay P),(7,i64 0),(8,aS 1 2 (x::xs)),(9,i64 (i:Int)),(10,i64 (k:Int))],⟨2,bq 1 b7 (x::xs)++[(0,.cells (dbC d) true)]⟩⟩)
    (λk=>P[i].lo<=(k:Int)∧(k:Int)<=P[i].hi∧∀ j (hj:j<cs.length),P[i].lo<=(j:Int)->j<k->¬ee cl cs[j]) (λk=>P[i].hi.toNat-k) P[i].lo.toNat ⟨by omega,by omega,λ_ _ _ _=>by omega⟩ ?_ ?_
   ·exact lq [(0,_),(1,_)] []
   intro k ⟨h5,h6,h7⟩;by_cases hk:(k:Int)<P[i].hi
   ·have hkt:k<text.length:=by omega
    have hq:=hL2 k hkt;by_cases hb:ee cl (cs[k]'(by omega))
    ·rw[decide_eq_true hb] at hq;have hy:=AN (r:=P[i]) om om h5 hk hb;simp only[decide_eq_true hy,if_true] at hs2;repeat' ((conv=>whnf);first|refine Idx.at (f:=i64) (l:=text) k om om ?_|exact kQ|(refine bk ?_ ?_<;>intro _<;>try(exfalso;omega))|refine stq ?_|refine aj.by aB T0 [0,0,0,6,14,31] (by kernel_rfl) ?_|refine cp hq ?_|fail)
     all_goals(conv=>whnf)
     refine⟨i+1,_,⟨by omega,hs2.symm⟩,by omega,?_⟩;exact lq [(0,_),(1,_)] []
    ·rw[decide_eq_false hb] at hq;repeat' ((conv=>whnf);first|refine Idx.at (f:=i64) (l:=text) k om om ?_|exact kQ|(refine bk ?_ ?_<;>intro _<;>try(exfalso;omega))|refine stq ?_|refine aj.by aB T0 [0,0,0,6,14,31] (by kernel_rfl) ?_|refine cp hq ?_|fail)
     all_goals(conv=>whnf)
     refine⟨k+1,⟨by omega,by omega,λj hj h8 h9=>(by by_cases h10:j<k;exact h7 j hj h8 h10;obtain rfl:j=k:=om;exact hb)⟩,by omega,?_⟩;exact lq [(0,_),(1,_)] []
   ·have hn:=ER (cl:=cl) (cs:=cs) (r:=P[i]) om (λj hj h8 h9=>h7 j hj h8 om);simp only[decide_eq_false hn,Bool.false_eq_true,if_false,List.append_nil] at hs2;repeat' ((conv=>whnf);first|exact kQ|(refine bk ?_ ?_<;>intro _<;>try(exfalso;omega))|refine stq ?_|fail)
    all_goals(conv=>whnf)
    refine⟨i+1,(x::xs),⟨by omega,hs2.symm⟩,by omega,?_⟩;exact lq [(0,_),(1,_)] []
 rw[kE om] at h4;rw[<-h4];cases o with
 | nil=>
  repeat' ((conv=>whnf);first|exact kQ|(refine bk ?_ ?_<;>intro _<;>try(exfalso;omega))|refine stq ?_)
  all_goals(conv=>whnf)
  exact⟨.tup (.cons .nil (.cons (.same rfl) .nil))⟩
 | cons x xs=>
  repeat' ((conv=>whnf);first|exact kQ|(refine bk ?_ ?_<;>intro _<;>try(exfalso;omega))|refine stq ?_)
  all_goals(conv=>whnf)
  exact⟨.tup (.cons (EY (b:=x::xs) rfl rfl rfl rfl) (.cons (.same rfl) .nil))⟩
theorem let_c {d:Db}{text:List Int}(ho:d.ok) (hx:text.length<=9223372036854775807):@Pu gtR Tryz.prog 5 [dbD d,aF text] (boo true):=by
 letI:=gtR;have hal:=jU;have hE0:=sr_nil;by_cases hf:SmD d∧text.length<=12
 ·obtain⟨hs,h12⟩:=hf;have hF:=nH (text:=text) ho hs h12;by_cases hv:DbV d
  ·have g:Good d:=⟨ho,hs,hv⟩;have hA:=xa (text:=text) g tv2 Cr om;have hrP:Pu Tryz.prog 18 [dbD d,i64 2,aF text] (.tup [ay (l8 (prop d 4) t2 text),i64 0]):=vz (text:=text) (k:=2) g rk2 om;have hc:Chn 0 (l8 (prop d 4) t2 text) text.length:=uU tv2.1;have hB:=DV (cl:=cl2) ho hrP hc om (λc=>rlet_c rk2 ho (by decide));have hpl:=jR hc;have hE:=zc (a:=D9 (prop d 4) t2 text) (by have:(D9 (prop d 4) t2 text).length<=(l8 (prop d 4) t2 text).length:=List.length_filter_le _ _;omega);have hB:Pu Tryz.prog 21 [dbD d,aF text] (.tup [ay (D9 (prop d 4) t2 text),i64 0]):=hB;refine pv Tryz.func5 ?_;repeat' ((conv=>whnf);first|exact kQ|(refine bk ?_ ?_<;>intro _<;>try(exfalso;omega))|refine stq ?_|refine cp hF ?_|refine cp hA ?_|refine cp hB ?_|refine cp hE ?_|refine cp hal ?_|fail)
   all_goals(conv=>whnf)
   exact aC.same rfl rfl
  ·have hrP:=zq (text:=text) (by decide) (qY (k:=2) ho hs hv);have hA:=zM (text:=text) (by decide) (rW ho hs hv);have hB:=GC hrP;refine pv Tryz.func5 ?_;repeat' ((conv=>whnf);first|exact kQ|(refine bk ?_ ?_<;>intro _<;>try(exfalso;omega))|refine stq ?_|refine cp hF ?_|refine cp hA ?_|refine cp hB ?_|refine cp hE0 ?_|refine cp hal ?_|fail)
   all_goals(conv=>whnf)
   exact aC.same rfl rfl
 ·have hF:=yu (text:=text) ho hf;refine pv Tryz.func5 ?_;repeat' ((conv=>whnf);first|exact kQ|(refine bk ?_ ?_<;>intro _<;>try(exfalso;omega))|refine stq ?_|refine cp hF ?_|refine cp hal ?_|fail)
  all_goals(conv=>whnf)
  exact aC.same rfl rfl
end Go.Proofs.YtbmdndckndnehaaGreatDoor
