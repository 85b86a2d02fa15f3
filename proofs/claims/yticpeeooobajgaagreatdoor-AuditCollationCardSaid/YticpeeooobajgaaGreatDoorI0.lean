/-
  Contracts over data: ordering.Sort.
-/
import Derived.Test.YticpeeooobajgaaGreatDoorNX
import Derived.Test.YticpeeooobajgaaGreatDoorNP
import Derived.Test.YticpeeooobajgaaGreatDoorNK
set_option linter.unusedSectionVars false
namespace Go.Proofs.YticpeeooobajgaaGreatDoor
section
open Go Go.Am Classical
set_option maxRecDepth 100000
set_option linter.unusedVariables false
theorem xI0.rdX {p:Prop}(h:p:=by first|exact Rd.yf rfl|exact Rd.same (nbT cl t).1|exact Rd.same (nbT cl t).2|exact Rd.fn .nil (.cons (.frzp rfl rfl (.cons (.same (aG _)) .nil)) (.cons (.frzp rfl rfl (.cons (.same (aO _)) .nil)) .nil))|exact Rd.frzp rfl rfl (Rds.cons (Rd.same (aO _)) Rds.nil)|exact Rd.same (nbF _)|exact Rd.slO rfl om om om|exact Rd.slO rfl rfl sim sim|fail):p:=h
theorem xI0.rbX {p:Prop}(h:p:=by first|exact Rb.dfr|exact rbS|exact rbZ|exact Rb.cells (Rds.eqs (by first|(rw[h6 asm];done)|fail) (aN (λ_=>rfl) _)) rfl|exact Rb.cells (Rds.eqs (by first|(simp[cY];done)|fail) (aN (λ_=>rfl) _)) rfl|fail):p:=h
open xI0
theorem aM {α:Type}{f:α->D}(h:∀ x,one (f x)=true):∀ l:List α,fF (l.map f)=true
 | []=>rfl
 | x::l=>by simp[fF,h,aM h l]
theorem Rd.slO {h:aB}{fz:Nat->Bool}{σ:Nat->Option Nat}{id id' off off' n cap es:Nat}{ex:Bool}{n' cap':Nat}(hs:σ id'=some id) (eo:off=off') (e:n=n') (e':cap=cap'):Rd h fz σ (.sl id off n cap es ex) (.sl id' off' n' cap' es ex):=by subst eo;subst e;subst e';exact .sl hs
section
variable {cls:Int->Int}
def Est (cls:Int->Int) (X:List Int):Prop:=X=[]∨∃ X' z,X=X' ++ [z]∧cls z=0
theorem Est.apart {X:List Int}(h:Est cls X) (G:List Int):can cls (X++G)=can cls X++can cls G:=by
 rcases h with rfl|⟨X',z,rfl,hz⟩
 ·rfl
 ·rw[List.append_assoc,show [z]++G=z::G from rfl,l8 hz,l8 hz];simp only[List.append_assoc];rfl
theorem uV {X:List Int}{z:Int}(hz:cls z=0):can cls (X++[z])=can cls X++[z]:=by
 rw[l8 hz];rfl
structure RnI (cls:Int->Int) (t:List Int) (k p:Nat) (s:Int):Prop where
 le:p<=k∧k<=t.length
 s:s=if p<k then(p:Int) else -1
 est:Est cls (t.take p)
 mks:Mk cls ((t.drop p).take (k-p))
abbrev rnS (cls:Int->Int) (t:List Int) (p:Nat):List Int:=can cls (t.take p)++t.drop p
theorem RnI.zero (cls:Int->Int) (t:List Int):RnI cls t 0 0 (-1):=⟨by omega,rfl,.inl rfl,by intro x hx;simp at hx⟩
theorem oJ {t:List Int}{k:Nat}(h:k<t.length):t.take (k+1)=t.take k++[t[k]]:=List.take_succ_eq_append_getElem h
theorem RnI.part {t:List Int}{k p:Nat}(h:p<=k):t.drop p=(t.drop p).take (k-p)++t.drop k:=by
 have:=(List.take_append_drop (k-p) (t.drop p)).symm
 rwa [List.drop_drop,show p+(k-p)=k by omega] at this
theorem RnI.front {t:List Int}{k p:Nat}(h:p<=k):t.take k=t.take p++(t.drop p).take (k-p):=by
 rw[<-List.take_add,show p+(k-p)=k by omega]
theorem RnI.next {t:List Int}{k p:Nat}{s:Int}(h:RnI cls t k p s) (hk:k<t.length) (hz:cls t[k]=0):RnI cls t (k+1) (k+1) (-1):=⟨by omega,by rw[if_neg om],.inr ⟨t.take k,t[k],oJ hk,hz⟩,by rw[Nat.sub_self];intro x hx;simp at hx⟩
theorem RnI.same {t:List Int}{k:Nat}(hk:k<t.length) (hz:cls t[k]=0):rnS cls t (k+1)=rnS cls t k:=by
 unfold rnS;rw[oJ hk,uV hz,kK hk];simp
theorem RnI.run {t:List Int}{k p:Nat}{s:Int}(h:RnI cls t k p s) (hk:k<t.length) (hz:cls t[k]=0):rnS cls t (k+1)=can cls (t.take p)++(can cls ((t.drop p).take (k-p))++t.drop k):=by
 unfold rnS;rw[oJ hk,uV hz,RnI.front h.le.1,h.est.apart,kK hk];simp
theorem RnI.more {t:List Int}{k p:Nat}{s:Int}(h:RnI cls t k p s) (hk:k<t.length) (hz:0<cls t[k]):RnI cls t (k+1) p (if p<k then(p:Int) else(k:Int)):=by
 have hle:=h.le;refine⟨by omega,by rw[if_pos (show p<k+1 by omega)];split<;>omega,h.est,?_⟩
 have e:(t.drop p).take (k+1-p)=(t.drop p).take (k-p)++[t[k]]:=by
  rw[show k+1-p=k-p+1 by omega,List.take_succ_eq_append_getElem (by simp;omega)];simp only[List.getElem_drop,show p+(k-p)=k by omega]
 rw[e];intro x hx;rcases List.mem_append.1 hx with hx|hx
 ·exact h.mks x hx
 ·rw[List.mem_singleton.1 hx];exact hz
theorem RnI.end1 {t:List Int}:rnS cls t t.length=can cls t:=by
 unfold rnS;rw[List.take_length,List.drop_length,List.append_nil]
theorem RnI.end2 {t:List Int}{p:Nat}{s:Int}(h:RnI cls t t.length p s):can cls t=can cls (t.take p)++(can cls ((t.drop p).take (t.length-p))++[]):=by
 have:=h.est.apart ((t.drop p).take (t.length-p))
 rw[<-RnI.front h.le.1,List.take_length] at this;rw[this,List.append_nil]
theorem rnS_at {t:List Int}{k p:Nat}(h:p<=k):rnS cls t p=can cls (t.take p)++((t.drop p).take (k-p)++t.drop k):=by
 unfold rnS;rw[<-RnI.part h]
theorem CH (t:List Int) (p:Nat):(rnS cls t p).length=t.length:=by
 unfold rnS;rw[kG,(cX _).length_eq,<-kG,List.take_append_drop]
end
noncomputable abbrev te (cl:List Spn) (t:List Int):Box:=.loop .ready none [.any,.any,.iptr [cB cl],.any,.any,.ptr 0 0,.any,.any,.any,.any,.any,.any,.any,qB cl t,.any,.any,.any,.any,.any,.any,.any,.any,.any,.any] [14] (fnA Tryz.f153) (fnB Tryz.f153)
noncomputable abbrev Dd (cl:List Spn) (t:List Int):Box:=.loop .busy none [.any,.any,.iptr [cB cl],.any,.any,.ptr 0 0,.any,.any,.any,.any,.any,.any,.any,qB cl t,.any,.any,.any,.any,.any,.any,.any,.any,.any,.any] [14] (fnA Tryz.f153) (fnB Tryz.f153)
theorem rbS {h:aB}{fz:Nat->Bool}{σl:List (Nat×Nat)}{cl:List Spn}{t:List Int}:Rb h fz (sgm 4 σl) (te cl t) (te cl t):=
 .loop (by repeat(first|exact Rds.nil|refine Rds.cons (by first|exact Rd.any|exact Rd.ptr rfl|exact Rd.same (by simp[aL,aJ,aG,aO])) ?_))
abbrev srtB (t:List Int) (n:Nat):List (Nat×Box):=[(0,.cells [.sl 1 0 n n 1 false] true),(1,.cells (t.map aa) false)]
set_option maxHeartbeats 4000000 in
theorem qY {cl:List Spn}{t:List Int}(hl:cl.length<=1000) (hr:ic cl) (hc:∀ c,0<=aK cl c) (ht:t.length<=100000) :
  AC1 Tryz.prog 324 [.yf 3,.iptr [aE t],.iptr [cB cl]] ⟨4,(3,te cl t)::(2,.dfr)::srtB t t.length⟩ (.tup []) ⟨4,(3,te cl t)::(2,.dfr)::srtB (can (aK cl) t) t.length⟩:=by
 refine AC1.of_vf aA T0 Tryz.func324 rfl rfl ?_;repeat' ((conv=>whnf);first|exact kQ|(refine bk ?_ ?_<;>intro _<;>try(exfalso;omega))|refine stq ?_)
 all_goals(conv=>whnf)
 refine aH.by3 aA T0 (λ(k:Nat) (p:Nat) (s:Int)=>⟨tmp 48 [(0,.yf 3),(1,.iptr [aE t]),(2,.iptr [cB cl]),(4,i64 s),(8,aE t),(9,i64 t.length),(10,i64 (k:Int))],⟨4,(3,te cl t)::(2,.dfr)::srtB (rnS (aK cl) t p) t.length⟩⟩)
  (λk p s=>RnI (aK cl) t k p s) (λk _ _=>t.length-k) 0 0 (-1) (RnI.zero _ _) ?_ ?_
 ·exact lq0
 intro k p s hI;have hle:=hI.le;have hs:=hI.s;have hlen:=CH (cls:=aK cl) t p;have hcp:(can (aK cl) (t.take p)).length=p:=by rw[(cX _).length_eq];simp;omega
 by_cases hp:p<k
 ·rw[if_pos hp] at hs;subst hs;have hG:((t.drop p).take (k-p)).length=k-p:=by simp;omega
  have hb:=Bg hl hr (P:=can (aK cl) (t.take p)) (G:=(t.drop p).take (k-p)) (S:=t.drop k) (o:=p) (n:=k-p) (c:=t.length-p) (by simp[hcp];omega) hcp hG hI.mks;rw[<-rnS_at hle.1] at hb;by_cases hk:k<t.length
  ·have hcc:=hc t[k];have h6:=hI.run hk;have h7:=hI.more hk;rw[if_pos hp] at h7;repeat' ((conv=>whnf);first|exact kQ|(refine bk ?_ ?_<;>intro _<;>try(exfalso;omega))|refine stq ?_|refine cp (lz hl hr) ?_|(apply Yll.sv rfl rfl (SvR.region T0 ?_);rotate_left)|exact And.intro rfl rfl|refine And.intro rfl (SvR.block (SvR.region T0 ?_))|refine Chk.mk ⟨by omega,by omega,by omega⟩ ?_|refine Cll.emb hb [(0,1)] [] (.tup []) [(1,.cells ((can (aK cl) (t.take p)++(can (aK cl) ((t.drop p).take (k-p))++t.drop k)).map aa) false)] [(3,Dd cl t),(2,.dfr),(0,.cells [.sl 1 0 t.length t.length 1 false] true)] rfl aq bxA rdA bxA reA ?_|fail)
   all_goals(conv=>whnf)
   ·refine⟨k+1,k+1,-1,hI.next hk asm,by omega,?_⟩;exact lq0
   ·refine⟨k+1,p,p,h7 om,by omega,?_⟩;exact lq0
  ·have hk2:k=t.length:=by omega
   subst hk2;have h6:=hI.end2;rw[List.drop_length] at hb;repeat' ((conv=>whnf);first|exact kQ|(refine bk ?_ ?_<;>intro _<;>try(exfalso;omega))|refine stq ?_|(apply Yll.sv rfl rfl (SvR.region T0 ?_);rotate_left)|exact And.intro rfl rfl|refine And.intro rfl (SvR.block (SvR.region T0 ?_))|refine Chk.mk ⟨by omega,by omega,by omega⟩ ?_|refine Cll.emb hb [(0,1)] [] (.tup []) [(1,.cells ((can (aK cl) (t.take p)++(can (aK cl) ((t.drop p).take (t.length-p))++[])).map aa) false)] [(3,Dd cl t),(2,.dfr),(0,.cells [.sl 1 0 t.length t.length 1 false] true)] rfl aq bxA rdA bxA reA ?_|fail)
   all_goals(conv=>whnf)
   refine⟨Or.inl rfl,_,rfl,?_⟩;rw[h6];exact lq0
 ·have hpk:p=k:=by omega
  subst hpk;rw[if_neg hp] at hs;subst hs;by_cases hk:p<t.length
  ·have hcc:=hc t[p];have h6:=RnI.same (cls:=aK cl) hk;have h7:=hI.more hk;rw[if_neg hp] at h7;repeat' ((conv=>whnf);first|exact kQ|(refine bk ?_ ?_<;>intro _<;>try(exfalso;omega))|refine stq ?_|refine cp (lz hl hr) ?_|fail)
   all_goals(conv=>whnf)
   ·refine⟨p+1,p+1,-1,hI.next hk asm,by omega,?_⟩;rw[h6 asm];exact lq0
   ·refine⟨p+1,p,p,h7 om,by omega,?_⟩;exact lq0
  ·have hk2:p=t.length:=by omega
   subst hk2;rw[RnI.end1];repeat' ((conv=>whnf);first|exact kQ|(refine bk ?_ ?_<;>intro _<;>try(exfalso;omega))|refine stq ?_|fail)
   all_goals(conv=>whnf)
   refine⟨Or.inl rfl,_,rfl,?_⟩;exact lq0
noncomputable abbrev tg (cl:List Spn):Box:=.loop .ready none [.any,.any,.any,.any,.any,.ptr 0 0,.any,.any,.any,.any,.any,.any,.any,qB cl [],.any,.any,.any,.any,.any,.any,.any,.any,.any,.any] [14] (fnA Tryz.f153) (fnB Tryz.f153)
theorem rbZ {h:aB}{fz:Nat->Bool}{σl:List (Nat×Nat)}{cl:List Spn}:Rb h fz (sgm 3 σl) (tg cl) (tg cl):=
 .loop (by repeat(first|exact Rds.nil|refine Rds.cons (by first|exact Rd.any|exact Rd.ptr rfl|exact Rd.same (by simp[aL,aJ,aG,aO])) ?_))
theorem v6:Pu Tryz.prog 79 [aE []] (aE []):=by
 refine Pu.empty ?_ ?_
 ·refine pv Tryz.func79 ?_;repeat' ((conv=>whnf);first|exact kQ|(refine bk ?_ ?_<;>intro _<;>try(exfalso;omega))|refine stq ?_)
  all_goals(conv=>whnf)
  exact⟨.nil⟩
 ·refine pv Tryz.func79 ?_;repeat' ((conv=>whnf);first|exact kQ|(refine bk ?_ ?_<;>intro _<;>try(exfalso;omega))|refine stq ?_)
  all_goals(conv=>whnf)
  exact⟨Rd.frz rfl rfl (kD rfl) (Rds.eqs rfl rfl)⟩
theorem yB {cl:List Spn}:AC1 Tryz.prog 324 [.yf 2,.iptr [aE []],.iptr [cB cl]] ⟨3,[(2,tg cl),(1,.dfr),(0,.cells [aE []] true)]⟩ (.tup []) ⟨3,[(2,tg cl),(1,.dfr),(0,.cells [aE []] true)]⟩:=by
 refine AC1.of_vf aA T0 Tryz.func324 rfl rfl ?_;repeat' ((conv=>whnf);first|refine bk (λh=>absurd h si) (λ_=>?_)|exact kQ|(refine bk ?_ ?_<;>intro _<;>try(exfalso;omega))|refine stq ?_|refine aH.times aA T0 1 ?_|fail)
 all_goals(conv=>whnf)
 refine⟨Or.inl rfl,_,rfl,?_⟩;exact lq0
theorem yI {l:List Spn}{t:List Int}(hl:l.length<=1000) (ht:t.length<=100000):Pu Tryz.prog 153 [cB l,aE t] (aE (can (aK (gZ l)) t)):=by
 have hu:=oG hl;have hcl:=oF hl;have hv:=rI l;have hr:=hv.rise;have hpos:∀ c,0<=aK (gZ l) c:=uA hv.cl;generalize gZ l=cl at *;cases t with
 | nil=>
  have hcn:=v6;have h1:=yB (cl:=cl);refine Pu.of_fw (ti:=lP Tryz.prog) Tryz.func153 rfl rfl (by simp[aJ,aO,aG]) ?_;repeat' ((conv=>whnf);first|refine Fw.range aA T0 rfl h1 rfl si ?_|exact kQ|(refine bk ?_ ?_<;>intro _<;>try(exfalso;omega))|refine stq ?_|refine cp hu ?_|refine cp hcn ?_|refine Fw.split ?_|refine Fw.one (x:=Code.region _ _ _) aA T0 ?_|refine Fw.weak (code:=Code.block _ _::_) (s':=⟨tmp 24 [(5,.ptr 0 0),(13,qB cl [])],⟨1,[(0,.cells [aE []] true)]⟩⟩) ?_ ?_|refine Cll.pk rV ?_|fail)
  ·exact lq [(0,7)] [0,12,13]
  all_goals(conv=>whnf)
  exact⟨rfl,_,rfl,⟨.same rfl⟩⟩
 | cons x xs=>
  have hx2:(x::xs).length=xs.length+1:=rfl;have h1:=qY (t:=x::xs) hcl hr hpos ht;refine Pu.of_fw (ti:=lP Tryz.prog) Tryz.func153 rfl rfl (by simp[aJ,aG,aO]) ?_;repeat' ((conv=>whnf);first|refine Fw.range aA T0 rfl h1 rfl si ?_|exact kQ|(refine bk ?_ ?_<;>intro _<;>try(exfalso;omega))|refine stq ?_|refine cp hu ?_|refine Fw.split ?_|refine Fw.one (x:=Code.region _ _ _) aA T0 ?_|refine Fw.weak (code:=Code.block _ _::_) (s':=⟨tmp 24 [(2,.iptr [cB cl]),(5,.ptr 0 0),(13,qB cl (x::xs))],⟨2,[(0,.cells [.sl 1 0 (x::xs).length (x::xs).length 1 false] true),(1,.cells ((x::xs).map aa) false)]⟩⟩) ?_ ?_|refine Cll.pk rV ?_|(apply Cll.inl aA T0 Tryz.func79 rfl rfl ?_;rotate_left)|exact⟨Or.inr rfl,rfl,rfl⟩|refine ad.lst ?_|refine Chk.mk (aM (λ_=>rfl) _) ?_|refine Chk.growX 8 1 rfl rfl om om si ?_|fail)
  ·exact lq [(0,_),(1,_)] [0,19,20]
  all_goals(conv=>whnf)
  exact⟨rfl,_,rfl,aI.frz1 rfl rfl (by rw[(cX _).length_eq]) (λ_=>rfl) rfl⟩
end
section
open Go Go.Am Classical
set_option maxRecDepth 100000
set_option linter.unusedVariables false
theorem xI1.rdX {p:Prop}(h:p:=by first|exact rdEx|exact Rd.same (nbN n)|exact Rd.frzI rfl rfl rfl rfl rfl|exact Rd.nil|exact Rd.sl' rfl sim sim|fail):p:=h
theorem xI1.rbX {p:Prop}(h:p:=by first|exact Rb.map (Res.same (AU _))|exact Rb.cells (Rds.eqs (xQ _) (aC (by intro _;rfl) _)) rfl|exact Rb.cells (Rds.eqs (appI (x::xs) (y::ys)) (aC (by intro _;rfl) _)) rfl|exact Rb.cells (Rds.eqs (BX (x::xs)) (aC (by intro _;rfl) _)) rfl|exact Rb.map (Res.eqs (by first|(rw[hp1 _ _ asm];done)|fail) (AU _))|exact Rb.map (Res.eqs (by first|(rw[hp2 asm];done)|fail) (AU _))|fail):p:=h
open xI1
abbrev jY (n:Nm) (k:Bool):D:=.fn (.func 262) [] [.ptr 1 0,.iptr (nmC n),.iptr [boo k],.ptr 2 0]
abbrev fsM (fs:List (Int×List Int)):List (D×D):=fs.map λp=>(i64 p.1,aE p.2)
abbrev exH (n:Nm) (k:Bool) (fs:List (Int×List Int)):List (Nat×Box):=[(0,.map (fsM fs)),(1,.cells [.map 0] true),(2,.cells [jY n k] true)]
theorem AU (fs:List (Int×List Int)):∀ p∈fsM fs,aL p.1=true∧aL p.2=true:=λp hp=>by
 obtain⟨q,_,rfl⟩:=List.mem_map.1 hp;exact⟨rfl,aG _⟩
theorem rdEx {h:aB}{fz:Nat->Bool}{σ:Nat->Option Nat}{n:Nm}{k:Bool}(h1:σ 1=some 1:=by rfl) (h2:σ 2=some 2:=by rfl):Rd h fz σ (jY n k) (jY n k):=
 Rd.fn .nil (.cons (.ptr h1) (.cons (.same (nbN n)) (.cons (.same rfl) (.cons (.ptr h2) .nil))))
def eU (ex:Int->List Int) (fs:List (Int×List Int)):Prop:=∀ p∈fs,p.2=ex p.1
theorem eU.at {ex:Int->List Int}{fs:List (Int×List Int)}(h:eU ex fs){c:Int}{i:Nat}{x:List Int}(hl:lkZ c fs 0=some (i,x)):x=ex c:=by
 obtain⟨h1,h2,h3⟩:=mc hl;have:=h _ (kM h1)
 rw[h3] at this;exact this
theorem eU.set {ex:Int->List Int}{fs:List (Int×List Int)}(h:eU ex fs) (c:Int) (i:Nat):eU ex (fs.set i (c,ex c)):=λp hp=>by
 rcases List.mem_or_eq_of_mem_set hp with h1|h1
 ·exact h p h1
 ·rw[h1]
theorem eU.add {ex:Int->List Int}{fs:List (Int×List Int)}(h:eU ex fs) (c:Int):eU ex (fs++[(c,ex c)]):=λp hp=>by
 rcases List.mem_append.1 hp with h1|h1
 ·exact h p h1
 ·rw[List.mem_singleton.1 h1]
def tM (c:Int) (v:List Int) (fs:List (Int×List Int)):List (Int×List Int):=match lkZ c fs 0 with|some (i,_)=>fs.set i (c,v)|none=>fs++[(c,v)]
def fsF (on:Int->Option (List Int)) (ex:Int->List Int):Nat->Int->List (Int×List Int)->List (Int×List Int)
 | 0,_,fs=>fs
 | f+1,c,fs=>match lkZ c fs 0 with
  | some _=>fs
  | none=>match on c with
   | none=>fs
   | some to=>tM c (ex c) (to.foldl (λst e=>fsF on ex f e st) fs)
theorem eU.put {ex:Int->List Int}{fs:List (Int×List Int)}(h:eU ex fs) (c:Int):eU ex (tM c (ex c) fs):=by
 unfold tM;split
 ·exact h.set c _
 ·exact h.add c
theorem eU.fold {ex:Int->List Int}{g:Int->List (Int×List Int)->List (Int×List Int)}(hg:∀ e fs,eU ex fs->eU ex (g e fs)):∀ (l:List Int) (fs:List (Int×List Int)),eU ex fs->eU ex (l.foldl (λst e=>g e st) fs)
 | [],_,h=>h
 | e::l,fs,h=>eU.fold hg l _ (hg e fs h)
theorem eU.next {on:Int->Option (List Int)}{ex:Int->List Int}:∀ (f:Nat) (c:Int) (fs:List (Int×List Int)),eU ex fs->eU ex (fsF on ex f c fs)
 | 0,_,_,h=>h
 | f+1,c,fs,h=>by
  simp only[fsF];split
  ·exact h
  ·split
   ·exact h
   ·exact(eU.fold (λe fs=>eU.next f e fs) _ _ h).put c
theorem yb {α:Type}{g:α->Int->α}{l:List Int}{z:α}{k:Nat}(h:k<l.length):(l.take (k+1)).foldl g z=g ((l.take k).foldl g z) l[k]:=by rw[ao h,List.foldl_append];rfl
theorem pM {ex:Int->List Int}{l:List Int}{k:Nat}(h:k<l.length):exs ex (l.take (k+1))=exs ex (l.take k)++ex l[k]:=by unfold exs;rw[ao h,List.flatMap_append];simp
theorem xQ (b:List Int):b.map i64=b.flatMap fQ:=(aD (f:=i64) b).symm
theorem appI (a b:List Int):((a.flatMap fQ).drop 0).take (a.length*1)++b.map i64=(a++b).flatMap fQ:=by
 rw[List.drop_zero,kE (by rw[aj (c:=fQ) (sz:=1) (λ_=>rfl)];omega),List.flatMap_append,<-xQ b]
theorem BX (a:List Int):splice (a.flatMap fQ) (0+a.length*1) []=a.flatMap fQ:=by
 unfold splice;simp
set_option maxHeartbeats 8000000 in
theorem Di {n:Nm}{k:Bool}{ex:Int->List Int}{rk:Int->Nat}(hn:n.dc.length<=1000) (hr:iq n.dc) (hrk:∀ c to,once n k c=some to->∀ e∈to,rk e<rk c) (hx:m8 (once n k) ex) (hlen:∀ c,(ex c).length<=64) (hto:∀ c to,once n k c=some to->to.length<=1000) :
  ∀ (f:Nat) (c:Int) (fs:List (Int×List Int)),rk c<f->eU ex fs ->
   AC1 Tryz.prog 262 [i64 c,.ptr 1 0,.iptr (nmC n),.iptr [boo k],.ptr 2 0] ⟨3,exH n k fs⟩ (aE (ex c)) ⟨3,exH n k (fsF (once n k) ex f c fs)⟩:=by
 intro f
 induction f with
 | zero=>intro c fs h;omega
 | succ f ih=>
  intro c fs hf hok;have h1:=vO (n:=n) (k:=k) (c:=c) hn hr;refine AC1.of_vf aA T0 Tryz.func262 rfl rfl ?_;cases hl:lkZ c fs 0 with
  | some q=>
   obtain⟨i,v⟩:=q;have hv:=hok.at hl;subst hv;have e:fsF (once n k) ex (f+1) c fs=fs:=by simp only[fsF,hl]
   rw[e];repeat' ((conv=>whnf);first|exact kQ|(refine bk ?_ ?_<;>intro _<;>try(exfalso;omega))|refine stq ?_|(refine eV.int (λi x hq=>?_) (λhq=>?_)<;>(rw[hl] at hq;first|(cases hq;done)|(simp only[kA,kB] at hq;obtain⟨rfl,rfl⟩:=hq)))|fail)
   all_goals(conv=>whnf)
   refine⟨Or.inr rfl,_,rfl,?_⟩;exact lq0
  | none=>
   cases ho:once n k c with
   | none=>
    rw[ho] at h1;have he:=hx.none ho;have e:fsF (once n k) ex (f+1) c fs=fs:=by simp only[fsF,hl,ho]
    rw[e,he];repeat' ((conv=>whnf);first|exact kQ|(refine bk ?_ ?_<;>intro _<;>try(exfalso;omega))|refine stq ?_|refine cp h1 ?_|(refine eV.int (λi x hq=>?_) (λhq=>?_)<;>first|(rw[hl] at hq;cases hq;done)|skip)|fail)
    all_goals(conv=>whnf)
    refine⟨Or.inr rfl,_,rfl,?_⟩;exact lq [] [25]
   | some to=>
    rw[ho] at h1;have hto2:=hto c to ho;have he:=hx.some ho;have hex:=hlen c;have e:fsF (once n k) ex (f+1) c fs=tM c (ex c) (to.foldl (λst e=>fsF (once n k) ex f e st) fs):=by simp only[fsF,hl,ho]
    rw[e];have key:∀ j (h:j<to.length),rk to[j]<f:=λj h=>by have:=hrk c to ho to[j] (kM h);omega
    have hpl:∀ j,(exs ex (to.take j)).length<=64:=λj=>by
     have h3:(exs ex to).length=(exs ex (to.take j)).length+(exs ex (to.drop j)).length:=by
      unfold exs;rw[<-kG,<-List.flatMap_append,List.take_append_drop]
     have h2:(exs ex to).length<=64:=by rw[he] at hex;exact hex
     omega
    repeat' ((conv=>whnf);first|exact kQ|(refine bk ?_ ?_<;>intro _<;>try(exfalso;omega))|refine stq ?_|refine cp h1 ?_|(refine eV.int (λi x hq=>?_) (λhq=>?_)<;>first|(rw[hl] at hq;cases hq;done)|skip)|fail)
    refine aH.by3 aA T0 (λ(j:Nat) (acc:List Int) (gs:List (Int×List Int))=>⟨tmp 49 [(0,i64 c),(1,.ptr 1 0),(2,.iptr (nmC n)),(3,.iptr [boo k]),(4,.ptr 2 0),(11,bG 3 1 acc),(33,aE to),(34,i64 to.length),(35,i64 (j:Int))],⟨4,bJ 3 fQ acc++exH n k gs⟩⟩)
     (λj acc gs=>(j<=to.length∧acc=exs ex (to.take j))∧eU ex gs∧gs=(to.take j).foldl (λst e=>fsF (once n k) ex f e st) fs) (λj _ _=>to.length-j) 0 [] fs ⟨⟨by omega,rfl⟩,hok,rfl⟩ ?_ ?_
    ·exact lq0
    intro j acc gs ⟨⟨g1,g2⟩,g3,g4⟩;have hacc:=hpl j;rw[<-g2] at hacc;by_cases hj:j<to.length
    ·have hb:=ih to[j] gs (key j hj) g3;have g5:=eU.next (on:=once n k) f to[j] gs g3;have g6:fsF (once n k) ex f to[j] gs=(to.take (j+1)).foldl (λst e=>fsF (once n k) ex f e st) fs:=by rw[yb hj,<-g4]
     have g7:acc++ex to[j]=exs ex (to.take (j+1)):=by rw[pM hj,<-g2]
     have hvl:=hlen to[j];generalize fsF (once n k) ex f to[j] gs=gs' at *;generalize ex to[j]=v at *;have hv0:([]:List Int).length=0:=rfl;cases acc with
     | nil=>
      cases v with
      | nil=>
       repeat' ((conv=>whnf);first|exact kQ|(refine bk ?_ ?_<;>intro _<;>try(exfalso;omega))|refine stq ?_|refine Cll.emb hb [(0,0),(1,1),(2,2)] [] (aE ([])) [(0,.map (fsM gs')),(1,.cells [.map 0] true),(2,.cells [jY n k] true)] [] rfl aq bxA rdA bxA reA ?_|fail)
       all_goals(conv=>whnf)
       refine⟨j+1,[],gs',⟨⟨by omega,g7⟩,g5,g6⟩,by omega,?_⟩;exact lq0
      | cons y ys=>
       have hv1:(y::ys).length=ys.length+1:=rfl;repeat' ((conv=>whnf);first|exact kQ|(refine bk ?_ ?_<;>intro _<;>try(exfalso;omega))|refine stq ?_|refine Cll.emb hb [(0,0),(1,1),(2,2)] [] (aE (y::ys)) [(0,.map (fsM gs')),(1,.cells [.map 0] true),(2,.cells [jY n k] true)] [] rfl aq bxA rdA bxA reA ?_|refine ad.lst ?_|refine Chk.growX 8 1 rfl rfl om om si ?_|fail)
       all_goals(conv=>whnf)
       refine⟨j+1,y::ys,gs',⟨⟨by omega,g7⟩,g5,g6⟩,by omega,?_⟩;exact lq [(3,12)] []
     | cons x xs=>
      have hx1:(x::xs).length=xs.length+1:=rfl;cases v with
      | nil=>
       repeat' ((conv=>whnf);first|exact kQ|(refine bk ?_ ?_<;>intro _<;>try(exfalso;omega))|refine stq ?_|refine Cll.emb hb [(0,0),(1,1),(2,2)] [] (aE ([])) [(0,.map (fsM gs')),(1,.cells [.map 0] true),(2,.cells [jY n k] true)] [(3,.cells ((x::xs).flatMap fQ) false)] rfl aq bxA rdA bxA reA ?_|refine ad.lst ?_|refine Chk.mk (aM (λ_=>rfl) _) ?_|refine Chk.mk (by rw[aj (c:=fQ) (sz:=1) (λ_=>rfl)];omega) ?_|fail)
       all_goals(conv=>whnf)
       rw[List.append_nil] at g7;refine⟨j+1,x::xs,gs',⟨⟨by omega,g7⟩,g5,g6⟩,by omega,?_⟩;exact lq [(3,3)] []
      | cons y ys=>
       have hv1:(y::ys).length=ys.length+1:=rfl;repeat' ((conv=>whnf);first|exact kQ|(refine bk ?_ ?_<;>intro _<;>try(exfalso;omega))|refine stq ?_|refine Cll.emb hb [(0,0),(1,1),(2,2)] [] (aE (y::ys)) [(0,.map (fsM gs')),(1,.cells [.map 0] true),(2,.cells [jY n k] true)] [(3,.cells ((x::xs).flatMap fQ) false)] rfl aq bxA rdA bxA reA ?_|refine ad.lst ?_|refine Chk.mk (aM (λ_=>rfl) _) ?_|refine Chk.growX 8 1 rfl rfl om om si ?_|fail)
       all_goals(conv=>whnf)
       refine⟨j+1,(x::xs)++(y::ys),gs',⟨⟨by omega,g7⟩,g5,g6⟩,by omega,?_⟩;exact lq [(3,12)] []
    ·have hall:acc=ex c:=by rw[g2,kE om,he]
     rw[kE om] at g4;rw[<-g4,<-hall];have hp1:∀ i v,lkZ c gs 0=some (i,v)->(fsM gs).set i (i64 c,aE acc)=fsM (tM c acc gs):=λi v h=>by simp only[fsM,tM,h,List.map_set]
     have hp2:lkZ c gs 0=none->fsM gs++[(i64 c,aE acc)]=fsM (tM c acc gs):=λh=>by simp only[fsM,tM,h,List.map_append];rfl
     clear g2 g4 hacc g3 hall e;cases acc with
     | nil=>
      repeat' ((conv=>whnf);first|refine ax.weak (x:=Code.seq (Code.region 13 _ false) _) aA T0 (s0:=⟨tmp 49 [(0,i64 c),(1,.ptr 1 0),(11,aE [])],⟨3,exH n k gs⟩⟩) ?_ ?_|exact kQ|(refine bk ?_ ?_<;>intro _<;>try(exfalso;omega))|refine stq ?_|refine eV.int (λi x hq=>?_) (λhq=>?_)|fail)
      ·exact lq0
      all_goals(conv=>whnf)
      all_goals
       refine⟨Or.inr rfl,_,rfl,?_⟩;exact lq0
     | cons x xs=>
      repeat' ((conv=>whnf);first|refine ax.weak (x:=Code.seq (Code.region 13 _ false) _) aA T0 (s0:=⟨tmp 49 [(0,i64 c),(1,.ptr 1 0),(11,aE (x::xs))],⟨3,exH n k gs⟩⟩) ?_ ?_|exact kQ|(refine bk ?_ ?_<;>intro _<;>try(exfalso;omega))|refine stq ?_|refine eV.int (λi x hq=>?_) (λhq=>?_)|fail)
      ·exact lq [] [3]
      all_goals(conv=>whnf)
      all_goals
       refine⟨Or.inr rfl,_,rfl,?_⟩;exact lq0
end
end Go.Proofs.YticpeeooobajgaaGreatDoor
