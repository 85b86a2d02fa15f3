/-
  The rules of lines in the reference: each position is decided as the table decides it.
-/
import Derived.Test.YtpgcjpcenaefpaaGreatDoorY4
import Derived.Test.YtpgcjpcenaefpaaGreatDoorM4a
import Derived.Test.YtpgcjpcenaefpaaGreatDoorJ1
set_option linter.unusedSectionVars false
namespace Go.Proofs.YtpgcjpcenaefpaaGreatDoor
section
open Go Go.Am Classical
set_option maxRecDepth 100000
theorem mz (cl:List Str) (rs:List Rul):aK (.agg [strs cl,lstS bp rs])=true:=by
 letI:=gtR;simp[aK,aF,aY,dP]
theorem D7 {g:FuncId}{ds:List D}{d:D}(hn:aF ds=true) (h:cH gtR Tryz.prog (cg Tryz.prog) spC 1000 (.fn g) ds .emp 0 (λd1 h1 _=>cN h1 100000 d1 d)=true):@Pu gtR Tryz.prog g ds d:=by
 letI:=gtR;exact Pu.of_t aB T0 eU hn h
theorem rrul4:@Pu gtR Tryz.prog 97 [i64 4] (.str Di):=D7 rfl (by kernel_rfl)
theorem rpa4:@Pu gtR Tryz.prog 70 [i64 4] (.agg [strs cl4,lstS bp rs4]):=by
 letI:=gtR;have h1:=EC;have h2:=rrul4;have h3:=Gw;refine pv Tryz.func70 ?_;repeat' ((conv=>whnf);first|exact kQ|(refine bk ?_ ?_<;>intro _<;>try exact exo)|refine stq ?_|(refine Cll.dec (A7 (k:=4)) (λ_=>?_) (λ_=>?_)<;>(try exact exo))|refine cp h1 ?_|refine cp h2 ?_|refine cp h3 ?_|fail)
 all_goals(conv=>whnf)
 exact aC.same (mz _ _) rfl
theorem chk4:@Pu gtR Tryz.prog 99 [.agg [strs cl4,lstS bp rs4]] (i64 0):=D7 (by letI:=gtR;simp[aF,mz]) (by kernel_rfl)
theorem ok4:rs4.all (λr=>okP r.left&&okP r.right)=true:=by kernel_rfl
theorem act4:rs4.all (λr=>ibe r.act 1 || (ibe r.act 2 || ibe r.act 3))=true:=by kernel_rfl
theorem GD (q:Option Nat):vv rs4 q=1\/vv rs4 q=2\/vv rs4 q=3:=by
 cases q with
 | none=>exact .inr (.inl rfl)
 | some i=>
  unfold vv;dsimp only;split
  .rename_i r hr;have:=List.all_eq_true.1 act4 r (List.mem_of_getElem? hr)
   simp only[kN,jV] at this;exact this
  .exact .inr (.inl rfl)
theorem yW {l:List Int}(hc:CL l cl4.length){k:Nat}(hk:k<=l.length):∃ q,uC cl4.length rs4 l k q/\(acts t4 l).getD k 0=vv rs4 q:=by
 obtain⟨q,q1,q2,q3⟩:=BM law4 hc hk;refine⟨q,q1,?_⟩;rw[aI (by rw[cj];omega)];simp only[acts,List.getElem_map,List.getElem_range];exact q2
theorem DI {l:List Int}(hc:CL l cl4.length){k:Nat}(hk:k<=l.length):(acts t4 l).getD k 0=1\/(acts t4 l).getD k 0=2\/(acts t4 l).getD k 0=3:=by
 obtain⟨q,_,e⟩:=yW hc hk;rw[e];exact GD q
theorem rdec4 {l:List Int}(hc:CL l cl4.length) (hl:l.length<=1000){k:Nat}(hk:k<=l.length):∃ i:Int,@Pu gtR Tryz.prog 72 [.agg [strs cl4,lstS bp rs4],aD l,i64 (k:Int)] (.tup [i64 ((acts t4 l).getD k 0),i64 i]):=by
 letI:=gtR;obtain⟨q,q1,e⟩:=yW hc hk;rw[e]
 exact⟨_,s9 chk4 (λr hr=>by
  have:=List.all_eq_true.1 ok4 r hr
  simp only[kC] at this
  exact⟨rT _ this.1,rT _ this.2⟩) (by decide) (by decide) hl hc hk q1⟩
end
section
open Go Go.Am Classical
set_option maxRecDepth 100000
theorem xK6.rdX {p:Prop}(h:p:=by first|exact Rd.nil|exact mJ rfl rfl (aN _) rfl|exact Rd.sl' rfl sim sim|fail):p:=h
theorem xK6.rbX {p:Prop}(h:p:=by first|exact Rb.cells (Rds.same (nq _ _)) rfl|exact Rb.cells (Rds.eqs (aS (by intro _;rfl) (x::xs) _) (aE (by intro _;rfl) _)) rfl|fail):p:=h
open xK6
theorem G7 {d:Db}{text:List Int}(ho:d.ok) (hx:text.length<=1000):@Pu gtR Tryz.prog 71 [dbD d,aD text] (aD (nvL d text)):=by
 letI:=gtR;have hC:=EC;have hN:Pu Tryz.prog 98 [bV d.lin,strs cl4,aD text] (aD (nvL d text)):=Bj (ho.prop 6) (by decide) hx;refine pv Tryz.func71 ?_;repeat' ((conv=>whnf);first|exact kQ|(refine bk ?_ ?_<;>intro _<;>try exact exo)|refine stq ?_|refine ac.by aB T0 [0,1,0,0,15,31] (by kernel_rfl) ?_|refine cp hC ?_|refine cp hN ?_|fail)
 all_goals(conv=>whnf)
 exact aC.same (aM _) rfl
set_option maxHeartbeats 8000000 in
theorem we {d:Db}{text:List Int}(ho:d.ok) (hs:SmD d) (hv:DbV d) (hx:text.length<=999):@Pu gtR Tryz.prog 54 [dbD d,aD text] (.tup [aD (cm d.lin t4 text),i64 0]):=by
 letI:=gtR;obtain⟨e,he,hi⟩:=d6 ho hs;obtain rfl:=hi.2 hv;have hR:=rpa4;have hC:=G7 (text:=text) ho om;have hnl:=gC d text;have hl:=e7 (p:=d.lin) (text:=text)
 have hD:∀ k:Nat,k<=text.length->∃ i:Int,Pu Tryz.prog 72 [.agg [strs cl4,lstS bp rs4],aD (nvL d text),i64 (k:Int)] (.tup [i64 ((cm d.lin t4 text).getD k 0),i64 i]):=λk hk=>by
  have h:=rdec4 (l:=nvL d text) (ip (p:=d.lin) (text:=text) (t:=t4) tv4.1) om (k:=k) om;rw[cm,if_pos tv4.1];exact h
 generalize cm d.lin t4 text=A at *;generalize nvL d text=nv at *;generalize cl4=cl at *;generalize rs4=rs at *;refine pv Tryz.func54 ?_;repeat' ((conv=>whnf);first|exact kQ|(refine bk ?_ ?_<;>intro _<;>try exact exo)|refine stq ?_|refine cp he ?_|refine cp hR ?_|refine cp hC ?_|fail)
 refine aG.by2 aB T0 (λ(k:Nat) (o:List Int)=>⟨tmp 37 [(6,.ptr 0 0),(7,aD nv),(8,aP 1 1 o),(9,i64 (k:Int))],⟨2,bK 1 (λx=>[i64 x]) o++[(0,.cells [strs cl,lstS bp rs] true)]⟩⟩)
  (λk o=>k<=A.length/\o=A.take k) (λk _=>A.length-k) 0 [] ⟨om,rfl⟩ ?_ ?_
 .exact lq [(0,_)] []
 intro k o ⟨h3,h4⟩;have hol:o.length<=k:=by rw[h4,List.length_take];omega
 by_cases hk:k<A.length
 .obtain⟨i,hq⟩:=hD k om;rw[aI hk] at hq;have hs2:o++[A[k]]=A.take (k+1):=by rw[h4,List.take_add_one,List.getElem?_eq_getElem hk];rfl
  cases o with
  | nil=>
   repeat' ((conv=>whnf);first|exact kQ|(refine bk ?_ ?_<;>intro _<;>try exact exo)|refine stq ?_|refine cp hq ?_|fail)
   all_goals(conv=>whnf)
   refine⟨k+1,_,⟨om,hs2⟩,om,?_⟩;exact lq [(0,_),(1,_)] []
  | cons x xs=>
   have hlen:(x::xs).length<=1001:=by omega
   repeat' ((conv=>whnf);first|exact kQ|(refine bk ?_ ?_<;>intro _<;>try exact exo)|refine stq ?_|refine cp hq ?_|fail)
   all_goals(conv=>whnf)
   refine⟨k+1,_,⟨om,hs2⟩,om,?_⟩;exact lq [(0,_),(1,_)] []
 .rw[kE om] at h4;subst h4;cases o with
  | nil=>exact absurd hl si
  | cons x xs=>
   repeat' ((conv=>whnf);first|exact kQ|(refine bk ?_ ?_<;>intro _<;>try exact exo)|refine stq ?_)
   all_goals(conv=>whnf)
   exact⟨.tup (.cons (mJ (b:=x::xs) rfl rfl (aN _) rfl) (.cons (.same rfl) .nil))⟩
theorem xg {p:Int->Bool}{A:List Int}:eo p A 1=[]:=(q9 (k:=0) om).trans Ce
theorem GC {d:Db}{text:List Int}{k:Nat}(h:k<(cm d.lin t4 text).length):pB (cm d.lin t4 text)[k]=decide (¬(cm d.lin t4 text)[k]=1):=by
 have hl:=e7 (p:=d.lin) (text:=text);have e0:cm d.lin t4 text=acts t4 (aV d.lin cl4 text):=by rw[cm,if_pos tv4.1];rfl
 have hc:CL (aV d.lin cl4 text) cl4.length:=@ip gtR d.lin t4 text tv4.1;have hn:(aV d.lin cl4 text).length=text.length:=by simp[aV]
 have hr:=DI hc (k:=k) om;rw[<-e0,aI h] at hr;unfold pB;rcases hr with h|h|h<;>rw[h]<;>decide
set_option maxHeartbeats 8000000 in
theorem EI {d:Db}{text:List Int}(ho:d.ok) (hs:SmD d) (hv:DbV d) (hx:text.length<=999):@Pu gtR Tryz.prog 30 [dbD d,aD text] (.tup [aD (ut d text),i64 0]):=by
 letI:=gtR;have hA:=we ho hs hv hx;have hl:=e7 (p:=d.lin) (text:=text);have hcond:∀ k (h:k<(cm d.lin t4 text).length),pB (cm d.lin t4 text)[k]=decide (¬(cm d.lin t4 text)[k]=1):=λk h=>GC h
 unfold ut;generalize cm d.lin t4 text=A at *;refine pv Tryz.func30 ?_;repeat' ((conv=>whnf);first|exact kQ|(refine bk ?_ ?_<;>intro _<;>try exact exo)|refine stq ?_|refine cp hA ?_|fail)
 refine aG.by2 aB T0 (λ(k:Nat) (o:List Int)=>⟨tmp 37 [(1,aD text),(6,aD A),(7,i64 0),(8,aP 0 1 o),(9,i64 (k:Int))],⟨1,bK 0 (λx=>[i64 x]) o⟩⟩)
  (λk o=>(1<=k/\(k<=text.length\/k=1)/\k<=A.length)/\o=eo pB A k) (λk _=>text.length-k) 1 [] ⟨om,xg.symm⟩ ?_ ?_
 .exact lq0
 intro k o ⟨⟨h3,h3',h3''⟩,h4⟩;have hol:o.length<=k:=by rw[h4];exact ix
 by_cases hk:k<text.length
 .have hkA:k<A.length:=om;have hcc:=hcond k hkA;have e0:A.getD k 0=A[k]:=aI hkA;by_cases hp:pB A[k]=true
  .have hs2:=qz (p:=pB) (A:=A) (k:=k) om om (by rw[e0];exact hp);rw[<-h4] at hs2;rw[hp] at hcc;have hcd:=of_decide_eq_true hcc.symm;cases o with
   | nil=>
    repeat' ((conv=>whnf);first|refine Idx.at (f:=i64) (l:=A) k om om ?_|exact kQ|(refine bk ?_ ?_<;>intro _<;>try exact exo)|refine stq ?_)
    all_goals(conv=>whnf)
    refine⟨k+1,[]++[(k:Int)],⟨⟨om,om,om⟩,hs2.symm⟩,om,?_⟩;exact lq [(0,_)] []
   | cons x xs=>
    have hlen:(x::xs).length<=1001:=by omega
    repeat' ((conv=>whnf);first|refine Idx.at (f:=i64) (l:=A) k om om ?_|exact kQ|(refine bk ?_ ?_<;>intro _<;>try exact exo)|refine stq ?_)
    all_goals(conv=>whnf)
    refine⟨k+1,_,⟨⟨om,om,om⟩,hs2.symm⟩,om,?_⟩;exact lq [(0,_)] []
  .have hp':pB A[k]=false:=by simpa using hp
   have hs2:=rA (p:=pB) (A:=A) (k:=k) (by rw[e0];exact hp');rw[hp'] at hcc;have hcd:=of_decide_eq_false hcc.symm;cases o with
   | nil=>
    repeat' ((conv=>whnf);first|refine Idx.at (f:=i64) (l:=A) k om om ?_|exact kQ|(refine bk ?_ ?_<;>intro _<;>try exact exo)|refine stq ?_)
    all_goals(conv=>whnf)
    refine⟨k+1,[],⟨⟨om,om,om⟩,by rw[hs2];exact h4⟩,om,?_⟩;exact lq0
   | cons x xs=>
    repeat' ((conv=>whnf);first|refine Idx.at (f:=i64) (l:=A) k om om ?_|exact kQ|(refine bk ?_ ?_<;>intro _<;>try exact exo)|refine stq ?_)
    all_goals(conv=>whnf)
    refine⟨k+1,x::xs,⟨⟨om,om,om⟩,by rw[hs2];exact h4⟩,om,?_⟩;exact lq [(0,_)] []
 .rw[xh hl h3 om h3'] at h4;rw[<-h4];cases o with
  | nil=>
   repeat' ((conv=>whnf);first|exact kQ|(refine bk ?_ ?_<;>intro _<;>try exact exo)|refine stq ?_)
   all_goals(conv=>whnf)
   exact⟨.tup (.cons .nil (.cons (.same rfl) .nil))⟩
  | cons x xs=>
   repeat' ((conv=>whnf);first|exact kQ|(refine bk ?_ ?_<;>intro _<;>try exact exo)|refine stq ?_)
   all_goals(conv=>whnf)
   exact⟨.tup (.cons (mJ (b:=x::xs) rfl rfl (aN _) rfl) (.cons (.same rfl) .nil))⟩
set_option maxHeartbeats 8000000 in
theorem EH {d:Db}{text:List Int}(ho:d.ok) (hs:SmD d) (hv:DbV d) (hx:text.length<=999):@Pu gtR Tryz.prog 53 [dbD d,aD text] (.tup [aq (jL d text),i64 0]):=by
 letI:=gtR;have hA:=we ho hs hv hx;have hl:=e7 (p:=d.lin) (text:=text);have hB:Pu Tryz.prog 69 [aD (CG d text),i64 (text.length:Int)] (aq (jL d text)):=DP (Nat.le_trans ix om);have hnb:=am (jL d text);unfold CG at hB;generalize jL d text=R at *;generalize cm d.lin t4 text=A at *;have hcond:∀ k (h:k<A.length),sB A[k]=decide (A[k]=3):=λk h=>rfl
 refine pv Tryz.func53 ?_;repeat' ((conv=>whnf);first|exact kQ|(refine bk ?_ ?_<;>intro _<;>try exact exo)|refine stq ?_|refine cp hA ?_|fail)
 refine aG.by2 aB T0 (λ(k:Nat) (o:List Int)=>⟨tmp 38 [(1,aD text),(6,aD A),(8,aP 0 1 o),(9,i64 (k:Int))],⟨1,bK 0 (λx=>[i64 x]) o⟩⟩)
  (λk o=>(1<=k/\(k<=text.length\/k=1)/\k<=A.length)/\o=eo sB A k) (λk _=>text.length-k) 1 [] ⟨om,xg.symm⟩ ?_ ?_
 .exact lq0
 intro k o ⟨⟨h3,h3',h3''⟩,h4⟩;have hol:o.length<=k:=by rw[h4];exact ix
 by_cases hk:k<text.length
 .have hkA:k<A.length:=om;have hcc:=hcond k hkA;have e0:A.getD k 0=A[k]:=aI hkA;by_cases hp:sB A[k]=true
  .have hs2:=qz (p:=sB) (A:=A) (k:=k) om om (by rw[e0];exact hp);rw[<-h4] at hs2;rw[hp] at hcc;have hcd:=of_decide_eq_true hcc.symm;cases o with
   | nil=>
    repeat' ((conv=>whnf);first|refine Idx.at (f:=i64) (l:=A) k om om ?_|exact kQ|(refine bk ?_ ?_<;>intro _<;>try exact exo)|refine stq ?_)
    all_goals(conv=>whnf)
    refine⟨k+1,[]++[(k:Int)],⟨⟨om,om,om⟩,hs2.symm⟩,om,?_⟩;exact lq [(0,_)] []
   | cons x xs=>
    have hlen:(x::xs).length<=1001:=by omega
    repeat' ((conv=>whnf);first|refine Idx.at (f:=i64) (l:=A) k om om ?_|exact kQ|(refine bk ?_ ?_<;>intro _<;>try exact exo)|refine stq ?_)
    all_goals(conv=>whnf)
    refine⟨k+1,_,⟨⟨om,om,om⟩,hs2.symm⟩,om,?_⟩;exact lq [(0,_)] []
  .have hp':sB A[k]=false:=by simpa using hp
   have hs2:=rA (p:=sB) (A:=A) (k:=k) (by rw[e0];exact hp');rw[hp'] at hcc;have hcd:=of_decide_eq_false hcc.symm;cases o with
   | nil=>
    repeat' ((conv=>whnf);first|refine Idx.at (f:=i64) (l:=A) k om om ?_|exact kQ|(refine bk ?_ ?_<;>intro _<;>try exact exo)|refine stq ?_)
    all_goals(conv=>whnf)
    refine⟨k+1,[],⟨⟨om,om,om⟩,by rw[hs2];exact h4⟩,om,?_⟩;exact lq0
   | cons x xs=>
    repeat' ((conv=>whnf);first|refine Idx.at (f:=i64) (l:=A) k om om ?_|exact kQ|(refine bk ?_ ?_<;>intro _<;>try exact exo)|refine stq ?_)
    all_goals(conv=>whnf)
    refine⟨k+1,x::xs,⟨⟨om,om,om⟩,by rw[hs2];exact h4⟩,om,?_⟩;exact lq [(0,_)] []
 .rw[xh hl h3 om h3'] at h4;rw[<-h4] at hB;cases o with
  | nil=>
   repeat' ((conv=>whnf);first|exact kQ|(refine bk ?_ ?_<;>intro _<;>try exact exo)|refine stv ?_)
   conv=>whnf
   refine cZ.go aB T0 ?_;repeat' ((conv=>whnf);first|exact kQ|(refine bk ?_ ?_<;>intro _<;>try exact exo)|refine stv ?_)
   conv=>whnf
   refine cZ.weak aB T0 (s0:=⟨tmp 38 [(1,aD text),(8,aD [])],⟨0,[]⟩⟩) ?_ ?_
   .exact lq0
   repeat' ((conv=>whnf);first|exact kQ|(refine bk ?_ ?_<;>intro _<;>try exact exo)|refine stq ?_|refine cp hB ?_|fail)
   all_goals(conv=>whnf)
   exact⟨Rd.eqd rfl (by simp[aK,aF,hnb])⟩
  | cons x xs=>
   repeat' ((conv=>whnf);first|exact kQ|(refine bk ?_ ?_<;>intro _<;>try exact exo)|refine stv ?_)
   conv=>whnf
   refine cZ.go aB T0 ?_;repeat' ((conv=>whnf);first|exact kQ|(refine bk ?_ ?_<;>intro _<;>try exact exo)|refine stv ?_)
   conv=>whnf
   refine cZ.weak aB T0 (s0:=⟨tmp 38 [(1,aD text),(8,aD (x::xs))],⟨0,[]⟩⟩) ?_ ?_
   .exact lq [] [0]
   repeat' ((conv=>whnf);first|exact kQ|(refine bk ?_ ?_<;>intro _<;>try exact exo)|refine stq ?_|refine cp hB ?_|fail)
   all_goals(conv=>whnf)
   exact⟨Rd.eqd rfl (by simp[aK,aF,hnb])⟩
end
end Go.Proofs.YtpgcjpcenaefpaaGreatDoor
