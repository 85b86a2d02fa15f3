/-
  Contracts of functions over data: the best division (the program).
-/
import Derived.Test.YtpgcjpcenaefpaaGreatDoorWF
import Derived.Test.YtpgcjpcenaefpaaGreatDoorWJ
set_option linter.unusedSectionVars false
namespace Go.Proofs.YtpgcjpcenaefpaaGreatDoor
open Go Go.Am Classical
set_option maxRecDepth 100000
theorem xWN.rdX {p:Prop}(h:p:=by first|exact Rd.same hnb|exact Rd.sl' rfl sim sim|fail):p:=h
theorem xWN.rbX {p:Prop}(h:p:=by first|exact Rb.cells (Rds.same (hnk _)) rfl|exact Rb.cells (Rds.eqs (aU (c:=bX) (sz:=2) (by intro _;rfl) (x::xs) (⟨(lo:Int),(nx:Int)⟩:Rng)) (aE (by intro _;rfl) _)) rfl|exact rbL rfl rfl rfl rfl|exact Rb.cells (Rds.eqs (show _=uP.flatMap kC from by kernel_rfl) (hnk uP)) rfl|fail):p:=h
open xWN
def uP:Tab:=List.replicate 400 (0,0)
theorem zy {L:aT}{lo:Nat}:L.TOk lo uP:=by
 have h:∀ k,tg uP k=(0,0):=λk=>by
  unfold tg uP;rw[List.getD,List.getElem?_replicate];split<;>rfl
 refine⟨List.length_replicate,λk _=>.inl (h k),λk _ h1=>?_⟩;rw[h k] at h1;exact absurd rfl h1
set_option maxHeartbeats 16000000 in
theorem zl {d:Db}{text:List Int}{m:Int}{L:aT}{O:List Int}{P:List Rng}(H:oJ d text m L O P) (hm:1<=m∧m<=1000):@Pu gtR Tryz.prog 19 [dbD d,aD text,i64 m] (.tup [bB (rgL 0 (L.bin 0)),i64 (L.B 0).2,i64 0]):=by
 letI:=gtR;have hp:=qW H hm;have hok:=H.ok;have hn:=H.n;have hx:=H.len;have hc:=Gx H (f:=text.length) (lo:=0) (T:=uP) om om (.inl rfl) zy;have hpost:=aT.lst_ok hok om (f:=text.length) (lo:=0) (T:=uP) om om zy;have hnb:aI (.iptr (mh d text m O P))=true:=by simp[aI,aF,ai,ae,bn,aw,aO,a8]
 have hnk:∀ T:Tab,aF (T.flatMap kC)=true:=λT=>aE (λ_=>rfl) _
 have hTl:=hpost.ok.len;have hat:=hpost.at'
 have hstep:∀ lo,lo<L.n->tg (L.lst text.length 0 uP) lo=L.B lo->lo<(L.B lo).1∧(L.B lo).1<=L.n∧((L.B lo).1<L.n->tg (L.lst text.length 0 uP) (L.B lo).1=L.B (L.B lo).1):=λlo hl he=>by
  have h1:=aT.pos_lt hok _ _ (aT.B_spec hok hl).1;refine⟨h1.1,h1.2,λh2=>?_⟩;have h3:=hpost.ok.cl lo hl (by rw[he];exact aT.B_ne hok hl) (by rw[he];exact h2);rw[he] at h3;rcases hpost.ok.inv (L.B lo).1 (Nat.zero_le _) with e|e
  ·rw[e] at h3;exact absurd rfl h3
  ·exact e.2
 clear hpost;have hB0:=hat;generalize L.lst text.length 0 uP=T at *;have hbq:∀ lo,lo<L.n->L.bin lo=(L.B lo).1::L.bin (L.B lo).1:=λlo h=>aT.bin_eq hok h
 have hbe:L.bin L.n=[]:=aT.bin_end;refine pv Tryz.func19 ?_;generalize hb:(L.B 0).2=b at *;unfold bsL at hc;generalize mh d text m O P=lc at *;repeat' ((conv=>whnf);first|exact kQ|(refine bk ?_ ?_<;>intro _<;>try(exfalso;omega))|refine stq ?_|refine cp hp ?_|refine Cll.emb hc [(0,1),(1,20),(2,12),(3,21)] [] (i64 b) [(1,.cells [aD text] true),(20,.cells (T.flatMap kC) true),(12,.cells [.iptr lc] true),(21,.cells [.fn (.func 40) [] [.ptr 1 0,.ptr 20 0,.ptr 12 0,.ptr 21 0]] true)] [(0,.cells (dbC d) true)] rfl cm bxA rdA bxA reA ?_|fail)
 refine aH.by2 aB T0 (λ(lo:Nat) (o:List Rng)=>⟨tmp 51 [(4,.ptr 0 0),(11,.ptr 1 0),(13,i64 b),(14,aV 2 2 o),(15,i64 (lo:Int))],⟨3,cK 2 bX o++[(0,.cells [aD text] true),(1,.cells (T.flatMap kC) true)]⟩⟩)
  (λlo o=>(lo<=text.length∧o.length<=lo∧(lo<L.n->tg T lo=L.B lo))∧rgL 0 (L.bin 0)=o++rgL lo (L.bin lo)) (λlo _=>text.length-lo) 0 [] ⟨⟨by omega,by simp,hat⟩,rfl⟩ ?_ ?_
 ·exact lq [(0,1),(1,20)] []
 intro lo o ⟨⟨h3,h4,h5⟩,h6⟩;by_cases hk:lo<text.length
 ·have he:=h5 om;obtain⟨q1,q2,q3⟩:=hstep lo om he;have hk1:=xE (T:=T) (k:=lo) om;rw[he] at hk1;rw[hbq lo om] at h6;generalize L.B lo=v at *;obtain⟨nx,c⟩:=v;simp only at q1 q2 q3 hk1 h6;have h7:rgL 0 (L.bin 0)=(o++[⟨(lo:Int),(nx:Int)⟩])++rgL nx (L.bin nx):=by rw[h6];simp[rgL]
  cases o with
  | nil=>
   repeat' ((conv=>whnf);first|exact kQ|(refine bk ?_ ?_<;>intro _<;>try(exfalso;omega))|refine stq ?_|refine bp.at lo rfl om ?_|refine Get.flat1 Ll lo 0 (d:=i64 (nx:Int)) (by show 0+lo*2+0=lo*2+0;omega) om (by rw[hk1];rfl) ?_|fail)
   all_goals(conv=>whnf)
   refine⟨nx,_,⟨⟨by omega,by simp;omega,q3⟩,h7⟩,by omega,?_⟩;exact lq [(0,_),(1,_),(2,_)] []
  | cons x xs=>
   have hlen:(x::xs).length<=1001:=by omega
   repeat' ((conv=>whnf);first|exact kQ|(refine bk ?_ ?_<;>intro _<;>try(exfalso;omega))|refine stq ?_|refine bp.at lo rfl om ?_|refine Get.flat1 Ll lo 0 (d:=i64 (nx:Int)) (by show 0+lo*2+0=lo*2+0;omega) om (by rw[hk1];rfl) ?_|fail)
   all_goals(conv=>whnf)
   refine⟨nx,_,⟨⟨by omega,by simp at h4 ⊢;omega,q3⟩,h7⟩,by omega,?_⟩;exact lq [(0,_),(1,_),(2,_)] []
 ·obtain rfl:lo=text.length:=by omega
  rw[<-hn,hbe] at h6;simp only[rgL,List.append_nil] at h6;rw[h6];cases o with
  | nil=>
   repeat' ((conv=>whnf);first|exact kQ|(refine bk ?_ ?_<;>intro _<;>try(exfalso;omega))|refine stq ?_|fail)
   all_goals(conv=>whnf)
   exact⟨.tup (.cons .nil (.cons (.same rfl) (.cons (.same rfl) .nil)))⟩
  | cons x xs=>
   repeat' ((conv=>whnf);first|exact kQ|(refine bk ?_ ?_<;>intro _<;>try(exfalso;omega))|refine stq ?_|fail)
   all_goals(conv=>whnf)
   exact⟨.tup (.cons (Ev (b:=x::xs) rfl rfl rfl rfl) (.cons (.same rfl) (.cons (.same rfl) .nil)))⟩
end Go.Proofs.YtpgcjpcenaefpaaGreatDoor
