/-
  Contracts over data: ordering.Sort and decompose.Text whose result is the caller's own.
-/
import Derived.Test.YticpeeooobajgaaGreatDoorI2
import Derived.Test.YticpeeooobajgaaGreatDoorNS
set_option linter.unusedSectionVars false
namespace Go.Proofs.YticpeeooobajgaaGreatDoor
section
open Go Go.Am Classical
set_option maxRecDepth 100000
set_option linter.unusedVariables false
theorem xIE.rdX {p:Prop}(h:p:=by first|exact Rd.frzp rfl rfl (Rds.cons (Rd.same (aO _)) Rds.nil)|exact Rd.fn .nil (.cons (.frzp rfl rfl (.cons (.same (aG _)) .nil)) (.cons (.frzp rfl rfl (.cons (.same (aO _)) .nil)) .nil))|exact Rd.slO rfl rfl rfl rfl|exact Rd.fn .nil (.cons (.ptr rfl) (.cons (.frzp rfl rfl (Rds.same (b8 n'))) (.cons (.frzp rfl rfl (Rds.same rfl)) (.cons (.ptr rfl) .nil))))|exact Rd.frzp rfl rfl (Rds.same (b8 n'))|exact rdEx|exact Rd.same (nbN n')|exact Rd.frzI rfl rfl rfl rfl rfl|exact Rd.same (aO _)|exact Rd.slO rfl rfl sim sim|exact Rd.sl' rfl sim sim|fail):p:=h
theorem xIE.rbX {p:Prop}(h:p:=by first|exact Rb.cells (Rds.same (aN (λ_=>rfl) _)) rfl|exact Rb.map Res.nil|exact Rb.map (Res.same (AU _))|exact Rb.cells (Rds.eqs (xQ _) (aC (by intro _;rfl) _)) rfl|exact Rb.cells (Rds.eqs (appI (x::xs) (y::ys)) (aC (by intro _;rfl) _)) rfl|exact Rb.cells (Rds.eqs (BX (x::xs)) (aC (by intro _;rfl) _)) rfl|exact Rb.cells (Rds.eqs (by first|(simp[cY];done)|fail) (aN (λ_=>rfl) _)) rfl|fail):p:=h
open xIE
abbrev slO2 (id n:Nat):D:=.sl id 0 n n 1 false
theorem vN {l:List Spn}{t:List Int}(hl:l.length<=1000) (ht:t.length<=100000) (hne:t≠[]):AC1 Tryz.prog 153 [cB l,aE t] ⟨0,[]⟩ (slO 0 (can (aK (gZ l)) t).length (can (aK (gZ l)) t).length) ⟨1,[(0,.cells ((can (aK (gZ l)) t).map aa) false)]⟩:=by
 have hu:=oG hl;have hcl:=oF hl;have hv:=rI l;have hr:=hv.rise;have hpos:∀ c,0<=aK (gZ l) c:=uA hv.cl;generalize gZ l=cl at *;obtain⟨x,xs,rfl⟩:=List.exists_cons_of_ne_nil hne;rw[show(can (aK cl) (x::xs)).length=(x::xs).length from(cX _).length_eq];have hx2:(x::xs).length=xs.length+1:=rfl;have h1:=qY (t:=x::xs) hcl hr hpos ht;refine AC1.of_fw (ti:=lP Tryz.prog) Tryz.func153 rfl rfl ?_;repeat' ((conv=>whnf);first|refine Fw.range aA T0 rfl h1 rfl si ?_|exact kQ|(refine bk ?_ ?_<;>intro _<;>try(exfalso;omega))|refine stq ?_|refine cp hu ?_|refine Fw.split ?_|refine Fw.one (x:=Code.region _ _ _) aA T0 ?_|refine Fw.weak (code:=Code.block _ _::_) (s':=⟨tmp 24 [(2,.iptr [cB cl]),(5,.ptr 0 0),(13,qB cl (x::xs))],⟨2,[(0,.cells [.sl 1 0 (x::xs).length (x::xs).length 1 false] true),(1,.cells ((x::xs).map aa) false)]⟩⟩) ?_ ?_|refine Cll.pk rV ?_|(apply Cll.inl aA T0 Tryz.func79 rfl rfl ?_;rotate_left)|exact⟨Or.inr rfl,rfl,rfl⟩|refine ad.lst ?_|refine Chk.mk (aM (λ_=>rfl) _) ?_|refine Chk.growX 8 1 rfl rfl om om si ?_|fail)
 ·exact lq [(0,_),(1,_)] [0,19,20]
 all_goals(conv=>whnf)
 refine⟨rfl,_,rfl,?_⟩;exact lq [(0,1)] []
set_option maxHeartbeats 8000000 in
theorem B5 {n n':Nm}{k:Bool}{t:List Int}(hN:i5 n n') (ht:t.length<=1500) (hne:bY n' k t≠[]):AC1 Tryz.prog 71 [nmD n,aE t,boo k] ⟨0,[]⟩ (slO 0 (bY n' k t).length (bY n' k t).length) ⟨1,[(0,.cells ((bY n' k t).map aa) false)]⟩:=by
 have hu:=hN.us;have hg:=hN.g;obtain⟨rk,hrk⟩:=qv hg.v k;have hx:=Aw (qv hg.v k);have hlen:=lenB hg k;have hcl:gZ n'.cl=n'.cl:=if_pos hg.cls;have hS:=λ(l:List Int) (hl:l.length<=100000) (h0:l≠[])=>vN (l:=n'.cl) (t:=l) hN.ok.cl hl h0
 rw[hcl] at hS;have hE:=Di (k:=k) hN.ok.dc hg.rise hrk hx hlen (λc to h=>toB hN.ok k h);change can (aK n'.cl) (exs (j5 (once n' k)) t)≠[] at hne;show AC1 _ _ _ _ (slO 0 (can (aK n'.cl) (exs (j5 (once n' k)) t)).length (can (aK n'.cl) (exs (j5 (once n' k)) t)).length) ⟨1,[(0,.cells ((can (aK n'.cl) (exs (j5 (once n' k)) t)).map aa) false)]⟩;generalize j5 (once n' k)=ex at *;refine AC1.of_vf aA T0 Tryz.func71 rfl rfl ?_;repeat' ((conv=>whnf);first|exact kQ|(refine bk ?_ ?_<;>intro _<;>try(exfalso;omega))|refine stq ?_|refine cp hu ?_|(apply Cll.inl aA T0 Tryz.func152 rfl rfl ?_;rotate_left)|exact⟨Or.inr rfl,rfl,rfl⟩|fail)
 refine aH.by3 aA T0 (λ(j:Nat) (acc:List Int) (gs:List (Int×List Int))=>⟨tmp 32 [(3,.iptr (nmC n')),(7,jY n' k),(8,bG 3 1 acc),(16,aE t),(17,i64 t.length),(18,i64 (j:Int))],⟨4,bJ 3 fQ acc++exH n' k gs⟩⟩)
  (λj acc gs=>(j<=t.length∧acc=exs ex (t.take j))∧eU ex gs) (λj _ _=>t.length-j) 0 [] [] ⟨⟨by omega,rfl⟩,λp h=>by simp at h⟩ ?_ ?_
 ·exact lq [(0,11),(1,12),(2,14)] [0,8,9]
 intro j acc gs ⟨⟨g1,g2⟩,g3⟩
 have hal:acc.length<=64*t.length:=by
  rw[g2];have h1:=nn hlen (t.take j);rw[List.length_take] at h1;omega
 by_cases hj:j<t.length
 ·have hb:=hE (rk t[j]+1) t[j] gs om g3;have g5:=eU.next (on:=once n' k) (rk t[j]+1) t[j] gs g3;have g7:acc++ex t[j]=exs ex (t.take (j+1)):=by rw[pM hj,<-g2]
  have hvl:=hlen t[j];generalize fsF (once n' k) ex (rk t[j]+1) t[j] gs=gs' at *;generalize ex t[j]=v at *;have hv0:([]:List Int).length=0:=rfl;cases acc with
  | nil=>
   cases v with
   | nil=>
    repeat' ((conv=>whnf);first|exact kQ|(refine bk ?_ ?_<;>intro _<;>try(exfalso;omega))|refine stq ?_|refine Cll.emb hb [(0,0),(1,1),(2,2)] [] (aE ([])) [(0,.map (fsM gs')),(1,.cells [.map 0] true),(2,.cells [jY n' k] true)] [] rfl aq bxA rdA bxA reA ?_|fail)
    all_goals(conv=>whnf)
    refine⟨j+1,[],gs',⟨⟨by omega,g7⟩,g5⟩,by omega,?_⟩;exact lq [(0,0),(1,1),(2,2)] []
   | cons y ys=>
    have hv1:(y::ys).length=ys.length+1:=rfl;repeat' ((conv=>whnf);first|exact kQ|(refine bk ?_ ?_<;>intro _<;>try(exfalso;omega))|refine stq ?_|refine Cll.emb hb [(0,0),(1,1),(2,2)] [] (aE (y::ys)) [(0,.map (fsM gs')),(1,.cells [.map 0] true),(2,.cells [jY n' k] true)] [] rfl aq bxA rdA bxA reA ?_|refine ad.lst ?_|refine Chk.growX 8 1 rfl rfl om om si ?_|fail)
    all_goals(conv=>whnf)
    refine⟨j+1,y::ys,gs',⟨⟨by omega,g7⟩,g5⟩,by omega,?_⟩;exact lq [(0,0),(1,1),(2,2),(3,12)] []
  | cons x xs=>
   have hx1:(x::xs).length=xs.length+1:=rfl;cases v with
   | nil=>
    repeat' ((conv=>whnf);first|exact kQ|(refine bk ?_ ?_<;>intro _<;>try(exfalso;omega))|refine stq ?_|refine Cll.emb hb [(0,0),(1,1),(2,2)] [] (aE ([])) [(0,.map (fsM gs')),(1,.cells [.map 0] true),(2,.cells [jY n' k] true)] [(3,.cells ((x::xs).flatMap fQ) false)] rfl aq bxA rdA bxA reA ?_|refine ad.lst ?_|refine Chk.mk (aM (λ_=>rfl) _) ?_|refine Chk.mk (by rw[aj (c:=fQ) (sz:=1) (λ_=>rfl)];omega) ?_|fail)
    all_goals(conv=>whnf)
    rw[List.append_nil] at g7;refine⟨j+1,x::xs,gs',⟨⟨by omega,g7⟩,g5⟩,by omega,?_⟩;exact lq [(0,0),(1,1),(2,2),(3,3)] []
   | cons y ys=>
    have hv1:(y::ys).length=ys.length+1:=rfl;repeat' ((conv=>whnf);first|exact kQ|(refine bk ?_ ?_<;>intro _<;>try(exfalso;omega))|refine stq ?_|refine Cll.emb hb [(0,0),(1,1),(2,2)] [] (aE (y::ys)) [(0,.map (fsM gs')),(1,.cells [.map 0] true),(2,.cells [jY n' k] true)] [(3,.cells ((x::xs).flatMap fQ) false)] rfl aq bxA rdA bxA reA ?_|refine ad.lst ?_|refine Chk.mk (aM (λ_=>rfl) _) ?_|refine Chk.growX 8 1 rfl rfl om om si ?_|fail)
    all_goals(conv=>whnf)
    refine⟨j+1,(x::xs)++(y::ys),gs',⟨⟨by omega,g7⟩,g5⟩,by omega,?_⟩;exact lq [(0,0),(1,1),(2,2),(3,12)] []
 ·rw[kE om] at g2;subst g2;have h0:exs ex t≠[]:=λh=>hne (by rw[h];rfl)
  have hs:=hS (exs ex t) om h0;generalize exs ex t=acc at *;cases acc with
  | nil=>exact absurd rfl h0
  | cons x xs=>
   repeat' ((conv=>whnf);first|exact kQ|(refine bk ?_ ?_<;>intro _<;>try(exfalso;omega))|refine stq ?_|refine Cll.emb hs [] [3] (slO2 9 (can (aK n'.cl) (x::xs)).length) [(9,.cells ((can (aK n'.cl) (x::xs)).map aa) false)] [] rfl aq bxA rdA bxA reA ?_|fail)
   all_goals(conv=>whnf)
   refine⟨Or.inr rfl,_,rfl,?_⟩;exact lq [(0,9)] []
end
section
open Go Go.Am Classical
set_option maxRecDepth 100000
set_option linter.unusedVariables false
theorem xIG.rbX {p:Prop}(h:p:=by first|exact Rb.cells (Rds.eqs (jo om om) (aN (λ_=>rfl) _)) rfl|fail):p:=h
open xIG
theorem xw {l:List Int}{a b k:Nat}(ha:a<l.length) (hb:b<l.length) (hk:k<l.length):(dE l a b).getD k 0=if k=b then l.getD a 0 else if k=a then l.getD b 0 else l.getD k 0:=by
 unfold dE;rw[gDe (by simpa using hk),List.getElem_set];by_cases h1:b=k
 ·rw[if_pos h1,if_pos h1.symm]
 ·rw[if_neg h1,if_neg (λh=>h1 h.symm),List.getElem_set];by_cases h2:a=k
  ·rw[if_pos h2,if_pos h2.symm]
  ·rw[if_neg h2,if_neg (λh=>h2 h.symm),gDe hk]
structure RvI (l:List Int) (i:Nat) (cur:List Int):Prop where
 len:cur.length=l.length
 le:i+i<=l.length+1
 at_:∀ k,k<l.length->cur.getD k 0=if k<i∨l.length<=k+i then l.getD (l.length-1-k) 0 else l.getD k 0
theorem RvI.next {l cur:List Int}{i:Nat}(h:RvI l i cur) (hi:i+i+1<l.length):RvI l (i+1) (dE cur i (l.length-1-i)):=by
 have hl:=h.len;refine⟨by simpa using hl,by omega,λk hk=>?_⟩;rw[xw om om om];have h1:=h.at_ i om;have h2:=h.at_ (l.length-1-i) om;have h3:=h.at_ k hk;rw[if_neg om] at h1;rw[if_neg om] at h2;by_cases e1:k=l.length-1-i
 ·rw[if_pos e1,if_pos om,h1,show l.length-1-k=i by omega]
 ·rw[if_neg e1];by_cases e2:k=i
  ·rw[if_pos e2,if_pos om,h2,e2]
  ·rw[if_neg e2,h3];by_cases e3:k<i∨l.length<=k+i
   ·rw[if_pos e3,if_pos om]
   ·rw[if_neg e3,if_neg om]
theorem RvI.done {l cur:List Int}{i:Nat}(h:RvI l i cur) (hi:¬i+i+1<l.length):cur=l.reverse:=by
 have hl:=h.len;refine List.ext_getElem (by simpa using hl) λk h1 h2=>?_
 have hk:k<l.length:=by omega
 have h3:=h.at_ k hk;rw[gDe h1] at h3;rw[h3,List.getElem_reverse,gDe om,gDe hk];split
 ·rfl
 ·congr 1;omega
theorem RvI.start (l:List Int):RvI l 0 l:=⟨rfl,by omega,λk hk=>by rw[if_neg om]⟩
set_option maxHeartbeats 4000000 in
theorem yE {l:List Int}{cp:Nat}(hl:l.length<=100000):AC1 Tryz.prog 60 [slO 0 l.length cp] ⟨1,[(0,.cells (l.map aa) false)]⟩ (.tup []) ⟨1,[(0,.cells (l.reverse.map aa) false)]⟩:=by
 refine AC1.of_vf aA T0 Tryz.func60 rfl rfl ?_;repeat' ((conv=>whnf);first|exact kQ|(refine bk ?_ ?_<;>intro _<;>try(exfalso;omega))|refine stq ?_)
 refine aH.by2 aA T0 (λ(i:Nat) (cur:List Int)=>⟨tmp 28 [(0,slO 0 l.length cp),(2,i64 (i:Int)),(3,i64 ((l.length:Int)-1-i))],⟨1,[(0,.cells (cur.map aa) false)]⟩⟩)
  (λi cur=>RvI l i cur) (λi _=>l.length-i) 0 l (RvI.start l) ?_ ?_
 ·exact lq0
 intro i cur h;have hlen:=h.len;by_cases hi:i+i+1<l.length
 ·have hn2:RvI l (i+1) (dE cur (0+i) (0+(l.length-1-i))):=by simpa using h.next hi
  repeat' ((conv=>whnf);first|exact kQ|(refine bk ?_ ?_<;>intro _<;>try(exfalso;omega))|refine stq ?_|refine ab.by (id:=3) aA T0 [0,0,0,0,0,0,48,112,0,0,768,1792,4083,8179,16383,32767] (by kernel_rfl) ?_|refine az.at i om om ?_|refine az.at (l.length-1-i) om om ?_|refine Get.mapO om ?_|refine Put.oneO (by simp;omega) ?_|fail)
  all_goals(conv=>whnf)
  refine⟨i+1,_,hn2,by omega,?_⟩;exact lq0
 ·have hd:=h.done hi;subst hd;repeat' ((conv=>whnf);first|exact kQ|(refine bk ?_ ?_<;>intro _<;>try(exfalso;omega))|refine stq ?_|fail)
  all_goals(conv=>whnf)
  refine⟨Or.inl rfl,_,rfl,?_⟩;exact lq0
end
section
open Go Go.Am Classical
set_option maxRecDepth 1000000
set_option linter.unusedVariables false
theorem xIH.rdX {p:Prop}(h:p:=by first|exact Rd.int a1|exact Rd.int am|exact Rd.int f1|exact Rd.int fm|exact Rd.int wm|exact Rd.sl' rfl om om|exact Rd.int om|exact Rd.int (by first|(rw[w0m,fm];rfl;done)|fail)|exact Rd.int (by first|(rw[w0m,fm'];rfl;done)|fail)|exact Rd.int (by first|(decide;done)|fail)|exact Rd.int (by first|(rw[w10];rfl;done)|fail)|exact Rd.int (by first|(simp only[kO,List.length_nil];omega;done)|fail)|fail):p:=h
theorem xIH.rbX {p:Prop}(h:p:=by first|exact Rb.cells (Rds.eqs (yD om) (z6 _ _ _)) rfl|exact Rb.cells (Rds.eqs (z4 om om om om) (z6 _ _ _)) rfl|fail):p:=h
open xIH
abbrev u64 (n:Int):D:=.v (.int .u64 n)
theorem w64 {n:Int}(h0:0<=n) (h1:n<18446744073709551616):IntKind.wrap .u64 n=n:=by
 unfold IntKind.wrap;simp only[IntKind.bits,IntKind.signed];simp;omega
theorem bvm {m:Nat}(h:m<4294967296):(BitVec.ofInt IntKind.u64.bits (m:Int) &&& BitVec.ofInt IntKind.u64.bits 4294967295).toNat=m:=by
 have e1:BitVec.ofInt IntKind.u64.bits (m:Int)=BitVec.ofNat 64 m:=by
  show BitVec.ofInt 64 (m:Int)=_;exact BitVec.ofInt_natCast 64 m
 have e2:BitVec.ofInt IntKind.u64.bits 4294967295=BitVec.ofNat 64 (2 ^ 32-1):=rfl;rw[e1,e2];show(BitVec.ofNat 64 m &&& BitVec.ofNat 64 (2 ^ 32-1)).toNat=m;rw[BitVec.toNat_and,BitVec.toNat_ofNat,BitVec.toNat_ofNat,Nat.mod_eq_of_lt om,Nat.mod_eq_of_lt (by decide),Nat.and_two_pow_sub_one_eq_mod,Nat.mod_eq_of_lt om]
theorem fdm {m:Nat}(h:m<4294967296):Int.fdiv (m:Int) (2 ^ min (Int.toNat 32) IntKind.u64.bits)=0:=by
 rw[Int.fdiv_eq_ediv_of_nonneg _ (by decide)];show(m:Int) / (2 ^ 32)=0;omega
theorem CR {m:Nat}(h:m<=100000):Pu Tryz.prog 329 [u64 1,u64 m] (.tup [u64 0,u64 m]):=by
 have a1:IntKind.u64.wrap ↑(BitVec.ofInt IntKind.u64.bits 1 &&& BitVec.ofInt IntKind.u64.bits 4294967295).toNat=1:=by decide
 have am:IntKind.u64.wrap ↑(BitVec.ofInt IntKind.u64.bits (m:Int) &&& BitVec.ofInt IntKind.u64.bits 4294967295).toNat=m:=by rw[bvm om,w64 om om]
 have f1:IntKind.u64.wrap (Int.fdiv 1 (2 ^ min (Int.toNat 32) IntKind.u64.bits))=0:=by decide
 have fm:IntKind.u64.wrap (Int.fdiv (m:Int) (2 ^ min (Int.toNat 32) IntKind.u64.bits))=0:=by rw[fdm om];decide
 have f1':Int.fdiv 1 (2 ^ min (Int.toNat 32) IntKind.u64.bits)=0:=by decide
 have f0':Int.fdiv 0 (2 ^ min (Int.toNat 32) IntKind.u64.bits)=0:=by decide
 have fm':=fdm (m:=m) om;have wm:IntKind.u64.wrap (1*(m:Int))=m:=by rw[w64 om om];omega
 have w0m:IntKind.u64.wrap (0*(m:Int))=0:=by rw[Int.zero_mul];decide
 have w10:IntKind.u64.wrap (1*0)=0:=by decide
 have w00:IntKind.u64.wrap (0*0)=0:=by decide
 refine pv Tryz.func329 ?_;repeat' ((conv=>whnf);first|refine ax.weak (x:=Code.seq (Code.region 10 _ false) _) aA T0 (s0:=⟨tmp 51 [(0,u64 1),(1,u64 m),(7,u64 0),(9,u64 0),(12,u64 0),(13,u64 0)],⟨0,[]⟩⟩) ?_ ?_|refine ax.weak (x:=Code.seq (Code.region 9 _ false) _) aA T0 (s0:=⟨tmp 51 [(0,u64 1),(1,u64 m),(6,u64 1),(7,u64 0),(9,u64 0),(12,u64 0),(13,u64 0)],⟨0,[]⟩⟩) ?_ ?_|refine ax.weak (x:=Code.seq (Code.region 7 _ false) _) aA T0 (s0:=⟨tmp 51 [(0,u64 1),(1,u64 m),(6,u64 1),(7,u64 0),(9,u64 0),(11,u64 0)],⟨0,[]⟩⟩) ?_ ?_|refine ax.weak (x:=Code.seq (Code.region 6 _ false) _) aA T0 (s0:=⟨tmp 51 [(0,u64 1),(1,u64 m),(6,u64 1),(7,u64 0),(8,u64 m),(9,u64 0),(10,u64 m)],⟨0,[]⟩⟩) ?_ ?_|refine ax.weak (x:=Code.seq (Code.region 5 _ false) _) aA T0 (s0:=⟨tmp 51 [(0,u64 1),(1,u64 m),(6,u64 1),(7,u64 0),(8,u64 m),(9,u64 0)],⟨0,[]⟩⟩) ?_ ?_|exact kQ|(refine bk ?_ ?_<;>intro _<;>try(exfalso;omega))|refine stq ?_|refine Chk.mk (show IntKind.u64.wrap _=_ by simp only[w0m,fm'];decide) ?_|fail)
 ·exact lq0
 ·exact lq0
 ·exact lq0
 ·exact lq0
 ·exact lq0
 all_goals(conv=>whnf)
 exact⟨.tup (.cons (Rd.int (by rw[w00,f0'];rfl)) (.cons (Rd.int wm) .nil))⟩
theorem mul_c {m:Nat}(h:m<=100000):Pu Tryz.prog 272 [u64 1,u64 m] (.tup [u64 0,u64 m]):=by
 have h1:=CR h;refine pv Tryz.func272 ?_;repeat' ((conv=>whnf);first|exact kQ|(refine bk ?_ ?_<;>intro _<;>try(exfalso;omega))|refine stq ?_|refine cp h1 ?_|fail)
 all_goals(conv=>whnf)
 exact⟨.same rfl⟩
theorem DT {n:Int}(h0:0<=n) (h1:n<=100000):IntKind.wrap .i64 n=n:=pD (gM om om)
def rpl (v:Int) (c m:Nat):List D:=(List.replicate c v++List.replicate (m-c) (0:Int)).map i64
theorem wV {v:Int}{c m:Nat}(h:c<=m):(rpl v c m).length=m:=by simp[rpl];omega
theorem z6 (v:Int) (c m:Nat):aJ (rpl v c m)=true:=aN (λ_=>rfl) _
theorem zz {v:Int}{m n:Nat}(h:m=n):cY [i64 0] m=rpl v 0 n:=by subst h;rw[@dS];simp[rpl]
theorem CG {v:Int}{m:Nat}:splice (rpl v 0 m) 0 (([v].map i64).take (min 1 m*1))=rpl v (min 1 m) m:=by
 cases m with
 | zero=>rfl
 | succ m=>rw[Nat.min_eq_left om];simp[splice,rpl]
theorem yD {v:Int}{m n:Nat}(h:m=n):splice (cY [i64 0] m) 0 (([v].map i64).take (min 1 m*1))=rpl v (min 1 n) n:=by rw[zz h,h,CG]
theorem tF {v:Int}{c m:Nat}:((rpl v c m).drop 0).take (c*1)=(List.replicate c v).map i64:=by
 rw[List.drop_zero,Nat.mul_one,rpl,<-List.map_take,List.take_append_of_le_length si,kE si]
theorem z4 {v:Int}{c n o q r:Nat}(h:c<=n) (ho:o=c) (hq:q=min c (n-c)) (hr:r=c+q):splice (rpl v c n) (0+o*1) ((((rpl v c n).drop 0).take (c*1)).take (q*1))=rpl v r n:=by
 subst ho hr;have h1:q<=o:=by omega
 have h2:o+q<=n:=by omega
 rw[tF,<-List.map_take,List.take_replicate,Nat.mul_one,Nat.mul_one,Nat.min_eq_left h1,splice,rpl,rpl];simp only[List.length_map,List.length_replicate,Nat.zero_add,<-List.map_take,<-List.map_drop,<-List.map_append];congr 1;rw[List.take_append_of_le_length si,kE si,List.drop_append,List.drop_of_length_le si,List.length_replicate,List.drop_replicate,List.nil_append,<-List.replicate_append_replicate];congr 2;omega
theorem B8 {v:Int}{h:aB}{c n cap:Nat}(hg:h.get 0=some (.cells (rpl v c n) true)) (hc:c<=n):bR h 1 (.sl 0 (0+Int.toNat 0*1) ((c:Int)-0).toNat cap 1 true)=some (c,((rpl v c n).drop 0).take (c*1)):=by
 have e:((c:Int)-0).toNat=c:=by omega
 have hl:=wV (v:=v) hc;rw[e];simp only[bR,hg,if_true];rw[if_pos (by rw[hl];simp;omega)];rfl
theorem z5 (v:Int) (c m:Nat):fF (((rpl v c m).drop 0).take (c*1))=true:=by rw[tF];exact aM (λ_=>rfl) _
theorem xW (m:Nat):0+m*1<=(cY [i64 0] m).length:=by rw[@dS];simp
theorem bT {v:Int}{n:Nat}(h:n<=100000):Pu Tryz.prog 160 [aE [v],i64 n] (aE (List.replicate n v)):=by
 have hm:=mul_c h;have hwn:=w64 (n:=(n:Int)) om om;have hwi:IntKind.wrap .i64 (IntKind.wrap .u64 (n:Int))=n:=by rw[hwn,DT om om]
 rw[<-w64 (n:=(n:Int)) om om,<-w64 (n:=1) om om] at hm;refine pv Tryz.func160 ?_;repeat' ((conv=>whnf);first|exact kQ|(refine bk ?_ ?_<;>intro _<;>try(exfalso;omega))|refine stq ?_|refine cp hm ?_|refine Chk.mk (xW _) ?_|fail)
 refine aH.by aA T0 (λc:Nat=>⟨tmp 48 [(7,.sl 0 0 n n 1 true),(8,i64 (c:Int))],⟨1,[(0,.cells (rpl v c n) true)]⟩⟩) (λc=>c<=n∧(0<n->0<c)) (λc=>n-c) (min 1 n) ⟨by omega,by omega⟩ ?_ ?_
 ·exact lq [(0,_)] []
 intro c ⟨h1,h2⟩;have hl:=wV (v:=v) h1;by_cases hc:c<n
 ·repeat' ((conv=>whnf);first|exact kQ|(refine bk ?_ ?_<;>intro _<;>try(exfalso;omega))|refine stq ?_|refine ab.by aA T0 [0,0,0,6,0,0,48,126,255,511] (by kernel_rfl) ?_|refine ad.exp (B8 rfl om) ?_|refine Chk.mk (z5 _ _ _) ?_|refine Chk.mk (by rw[hl];omega) ?_|fail)
  all_goals(conv=>whnf)
  refine⟨c+min c (n-c),⟨by omega,by omega⟩,by omega,?_⟩;exact lq [(0,_)] []
 ·obtain rfl:c=n:=by omega
  repeat' ((conv=>whnf);first|exact kQ|(refine bk ?_ ?_<;>intro _<;>try(exfalso;omega))|refine stq ?_|fail)
  all_goals(conv=>whnf)
  exact⟨Rd.frzI rfl rfl si rfl (by rw[rpl,aD];simp)⟩
end
section
open Go Go.Am Classical
set_option maxRecDepth 100000
set_option linter.unusedVariables false
def cmn (m:Int):Int:=if m<1∨65535<m then 65535 else m
theorem BF {m:Int}:Pu Tryz.prog 158 [i64 m] (i64 (cmn m)):=by
 by_cases h:m<1∨65535<m
 ·rw[show cmn m=65535 from if_pos h];refine pv Tryz.func158 ?_;repeat' ((conv=>whnf);first|exact kQ|(refine bk ?_ ?_<;>intro _<;>try(exfalso;omega))|refine stq ?_)
  all_goals(conv=>whnf)
  all_goals exact aI.int rfl
 ·rw[show cmn m=m from if_neg h];refine pv Tryz.func158 ?_;repeat' ((conv=>whnf);first|exact kQ|(refine bk ?_ ?_<;>intro _<;>try(exfalso;omega))|refine stq ?_)
  all_goals(conv=>whnf)
  all_goals exact aI.int rfl
end
end Go.Proofs.YticpeeooobajgaaGreatDoor
