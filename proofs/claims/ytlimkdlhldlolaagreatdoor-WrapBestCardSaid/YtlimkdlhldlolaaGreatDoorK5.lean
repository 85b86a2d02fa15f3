/-
  The rules of lines in the reference: each position is decided as the table decides it.
-/
import Derived.Test.YtlimkdlhldlolaaGreatDoorY1
import Derived.Test.YtlimkdlhldlolaaGreatDoorM1
import Derived.Test.YtlimkdlhldlolaaGreatDoorJ1
set_option linter.unusedSectionVars false
namespace Go.Proofs.YtlimkdlhldlolaaGreatDoor
open Go Go.Am Classical
set_option maxHeartbeats 8000000
set_option maxRecDepth 100000
section
theorem nF (cl:List Str) (rs:List Rul):aK (.agg [strs cl,lstS cC rs])=true:=by
 letI:=gtR;simp[aK,aF,aX,dP]
theorem EW {g:FuncId}{ds:List D}{d:D}(hn:aF ds=true) (h:cK gtR Tryz.prog (ci Tryz.prog) spC 1000 (.fn g) ds .emp 0 (λd1 h1 _=>cQ h1 100000 d1 d)=true):@Pu gtR Tryz.prog g ds d:=by
 letI:=gtR;exact Pu.of_t aB T0 eZ hn h
theorem rrul4:@Pu gtR Tryz.prog 66 [i64 4] (.str D5):=EW rfl (by kernel_rfl)
theorem rpa4:@Pu gtR Tryz.prog 46 [i64 4] (.agg [strs cl4,lstS cC rs4]):=by
 letI:=gtR;have h1:=Eb;have h2:=rrul4;have h3:=HS;refine pv Tryz.func46 ?_;repeat' ((conv=>whnf);first|exact kQ|(refine bk ?_ ?_<;>intro _<;>try exact exo)|refine stq ?_|(refine Cll.dec (BL (k:=4)) (λ_=>?_) (λ_=>?_)<;>(try exact exo))|refine cp h1 ?_|refine cp h2 ?_|refine cp h3 ?_|fail)
 (conv=>whnf)
 exact aD.same (nF _ _) rfl
theorem chk4:@Pu gtR Tryz.prog 68 [.agg [strs cl4,lstS cC rs4]] (i64 0):=EW (by letI:=gtR;simp[aF,nF]) (by kernel_rfl)
theorem ok4:rs4.all (λr=>okP r.left&&okP r.right)=true:=by kernel_rfl
theorem act4:rs4.all (λr=>ibe r.act 1 || (ibe r.act 2 || ibe r.act 3))=true:=by kernel_rfl
theorem Gc (q:Option Nat):v8 rs4 q=1\/v8 rs4 q=2\/v8 rs4 q=3:=by
 cases q with
 | none=>exact .inr (.inl rfl)
 | some i=>
  unfold v8;dsimp only;split
  .rename_i r hr;have:=List.all_eq_true.1 act4 r (List.mem_of_getElem? hr)
   simp only[kN,jX] at this;exact this
  .exact .inr (.inl rfl)
theorem ym {l:List Int}(hc:CL l cl4.length){k:Nat}(hk:k<=l.length):∃ q,uP cl4.length rs4 l k q/\(acts t4 l).getD k 0=v8 rs4 q:=by
 obtain⟨q,q1,q2,q3⟩:=Be law4 hc hk;refine⟨q,q1,?_⟩;rw[aH (by rw[cm];omega)];simp only[acts,List.getElem_map,List.getElem_range];exact q2
theorem Df {l:List Int}(hc:CL l cl4.length){k:Nat}(hk:k<=l.length):(acts t4 l).getD k 0=1\/(acts t4 l).getD k 0=2\/(acts t4 l).getD k 0=3:=by
 obtain⟨q,_,e⟩:=ym hc hk;rw[e];exact Gc q
theorem rdec4 {l:List Int}(hc:CL l cl4.length) (hl:l.length<=1000){k:Nat}(hk:k<=l.length):∃ i:Int,@Pu gtR Tryz.prog 48 [.agg [strs cl4,lstS cC rs4],aC l,i64 (k:Int)] (.tup [i64 ((acts t4 l).getD k 0),i64 i]):=by
 letI:=gtR;obtain⟨q,q1,e⟩:=ym hc hk;rw[e]
 exact⟨_,tJ chk4 (λr hr=>by
  have:=List.all_eq_true.1 ok4 r hr
  simp only[kC] at this
  exact⟨rc _ this.1,rc _ this.2⟩) (by decide) (by decide) hl hc hk q1⟩
end
section
theorem xK6.rdX {p:Prop}(h:p:=by first|exact Rd.nil|exact mR rfl rfl (aN _) rfl|exact Rd.sl' rfl sim sim|fail):p:=h
theorem xK6.rbX {p:Prop}(h:p:=by first|exact Rb.cells (Rds.same (n9 _ _)) rfl|exact Rb.cells (Rds.eqs (aQ (by intro _;rfl) (x::xs) _) (aE (by intro _;rfl) _)) rfl|fail):p:=h
open xK6
theorem Hb {d:Db}{text:List Int}(ho:d.ok) (hx:text.length<=1000):@Pu gtR Tryz.prog 47 [dbD d,aC text] (aC (nvL d text)):=by
 letI:=gtR;have hC:=Eb;have hN:Pu Tryz.prog 67 [bY d.lin,strs cl4,aC text] (aC (nvL d text)):=B0 (ho.prop 6) (by decide) hx;refine pv Tryz.func47 ?_;repeat' ((conv=>whnf);first|exact kQ|(refine bk ?_ ?_<;>intro _<;>try exact exo)|refine stq ?_|refine ac.by aB T0 [0,1,0,0,15,31] (by kernel_rfl) ?_|refine cp hC ?_|refine cp hN ?_|fail)
 (conv=>whnf)
 exact aD.same (aM _) rfl
theorem wt {d:Db}{text:List Int}(ho:d.ok) (hs:SmD d) (hv:DbV d) (hx:text.length<=999):@Pu gtR Tryz.prog 35 [dbD d,aC text] (.tup [aC (cn d.lin t4 text),i64 0]):=by
 letI:=gtR;obtain⟨e,he,hi⟩:=eB ho hs;obtain rfl:=hi.2 hv;have hR:=rpa4;have hC:=Hb (text:=text) ho om;have hnl:=fy d text;have hl:=fC (p:=d.lin) (text:=text)
 have hD:∀ k:Nat,k<=text.length->∃ i:Int,Pu Tryz.prog 48 [.agg [strs cl4,lstS cC rs4],aC (nvL d text),i64 (k:Int)] (.tup [i64 ((cn d.lin t4 text).getD k 0),i64 i]):=λk hk=>by
  have h:=rdec4 (l:=nvL d text) (ip (p:=d.lin) (text:=text) (t:=t4) tv4.1) om (k:=k) om;rw[cn,if_pos tv4.1];exact h
 generalize cn d.lin t4 text=A at *;generalize nvL d text=nv at *;generalize cl4=cl at *;generalize rs4=rs at *;refine pv Tryz.func35 ?_;repeat' ((conv=>whnf);first|exact kQ|(refine bk ?_ ?_<;>intro _<;>try exact exo)|refine stq ?_|refine cp he ?_|refine cp hR ?_|refine cp hC ?_|fail)
 refine aG.by2 aB T0 (λ(k:Nat) (o:List Int)=>⟨tmp 37 [(6,.ptr 0 0),(7,aC nv),(8,aP 1 1 o),(9,i64 (k:Int))],⟨2,bS 1 (λx=>[i64 x]) o++[(0,.cells [strs cl,lstS cC rs] true)]⟩⟩)
  (λk o=>k<=A.length/\o=A.take k) (λk _=>A.length-k) 0 [] ⟨om,rfl⟩ ?_ ?_
 .exact lq [(0,_)] []
 intro k o ⟨h3,h4⟩;have hol:o.length<=k:=by rw[h4,List.length_take];omega
 by_cases hk:k<A.length
 .obtain⟨i,hq⟩:=hD k om;rw[aH hk] at hq;have hs2:o++[A[k]]=A.take (k+1):=by rw[h4,List.take_add_one,List.getElem?_eq_getElem hk];rfl
  cases o with
  | nil=>
   repeat' ((conv=>whnf);first|exact kQ|(refine bk ?_ ?_<;>intro _<;>try exact exo)|refine stq ?_|refine cp hq ?_|fail)
   (conv=>whnf)
   refine⟨k+1,_,⟨om,hs2⟩,om,?_⟩;exact lq [(0,_),(1,_)] []
  | cons x xs=>
   have hlen:(x::xs).length<=1001:=by omega
   repeat' ((conv=>whnf);first|exact kQ|(refine bk ?_ ?_<;>intro _<;>try exact exo)|refine stq ?_|refine cp hq ?_|fail)
   (conv=>whnf)
   refine⟨k+1,_,⟨om,hs2⟩,om,?_⟩;exact lq [(0,_),(1,_)] []
 .rw[kE om] at h4;subst h4;cases o with
  | nil=>exact absurd hl si
  | cons x xs=>
   repeat' ((conv=>whnf);first|exact kQ|(refine bk ?_ ?_<;>intro _<;>try exact exo)|refine stq ?_)
   (conv=>whnf)
   exact⟨.tup (.cons (mR (b:=x::xs) rfl rfl (aN _) rfl) (.cons (.same rfl) .nil))⟩
theorem xv {p:Int->Bool}{A:List Int}:e8 p A 1=[]:=(rG (k:=0) om).trans Cw
theorem Gb {d:Db}{text:List Int}{k:Nat}(h:k<(cn d.lin t4 text).length):pK (cn d.lin t4 text)[k]=decide (¬(cn d.lin t4 text)[k]=1):=by
 have hl:=fC (p:=d.lin) (text:=text);have e0:cn d.lin t4 text=acts t4 (aW d.lin cl4 text):=by rw[cn,if_pos tv4.1];rfl
 have hc:CL (aW d.lin cl4 text) cl4.length:=@ip gtR d.lin t4 text tv4.1;have hn:(aW d.lin cl4 text).length=text.length:=by simp[aW]
 have hr:=Df hc (k:=k) om;rw[<-e0,aH h] at hr;unfold pK;rcases hr with h|h|h<;>rw[h]<;>decide
theorem Eh {d:Db}{text:List Int}(ho:d.ok) (hs:SmD d) (hv:DbV d) (hx:text.length<=999):@Pu gtR Tryz.prog 18 [dbD d,aC text] (.tup [aC (nD d text),i64 0]):=by
 letI:=gtR;have hA:=wt ho hs hv hx;have hl:=fC (p:=d.lin) (text:=text);have hcond:∀ k (h:k<(cn d.lin t4 text).length),pK (cn d.lin t4 text)[k]=decide (¬(cn d.lin t4 text)[k]=1):=λk h=>Gb h
 unfold nD;generalize cn d.lin t4 text=A at *;refine pv Tryz.func18 ?_;repeat' ((conv=>whnf);first|exact kQ|(refine bk ?_ ?_<;>intro _<;>try exact exo)|refine stq ?_|refine cp hA ?_|fail)
 refine aG.by2 aB T0 (λ(k:Nat) (o:List Int)=>⟨tmp 37 [(1,aC text),(6,aC A),(7,i64 0),(8,aP 0 1 o),(9,i64 (k:Int))],⟨1,bS 0 (λx=>[i64 x]) o⟩⟩)
  (λk o=>(1<=k/\(k<=text.length\/k=1)/\k<=A.length)/\o=e8 pK A k) (λk _=>text.length-k) 1 [] ⟨om,xv.symm⟩ ?_ ?_
 .exact lq0
 intro k o ⟨⟨h3,h3',h3''⟩,h4⟩;have hol:o.length<=k:=by rw[h4];exact iz
 by_cases hk:k<text.length
 .have hkA:k<A.length:=om;have hcc:=hcond k hkA;have e0:A.getD k 0=A[k]:=aH hkA;by_cases hp:pK A[k]=true
  .have hs2:=rF (p:=pK) (A:=A) (k:=k) om om (by rw[e0];exact hp);rw[<-h4] at hs2;rw[hp] at hcc;have hcd:=of_decide_eq_true hcc.symm;cases o with
   | nil=>
    repeat' ((conv=>whnf);first|refine Idx.at (f:=i64) (l:=A) k om om ?_|exact kQ|(refine bk ?_ ?_<;>intro _<;>try exact exo)|refine stq ?_)
    (conv=>whnf)
    refine⟨k+1,[]++[(k:Int)],⟨⟨om,om,om⟩,hs2.symm⟩,om,?_⟩;exact lq [(0,_)] []
   | cons x xs=>
    have hlen:(x::xs).length<=1001:=by omega
    repeat' ((conv=>whnf);first|refine Idx.at (f:=i64) (l:=A) k om om ?_|exact kQ|(refine bk ?_ ?_<;>intro _<;>try exact exo)|refine stq ?_)
    (conv=>whnf)
    refine⟨k+1,_,⟨⟨om,om,om⟩,hs2.symm⟩,om,?_⟩;exact lq [(0,_)] []
  .have hp':pK A[k]=false:=by simpa using hp
   have hs2:=rH (p:=pK) (A:=A) (k:=k) (by rw[e0];exact hp');rw[hp'] at hcc;have hcd:=of_decide_eq_false hcc.symm;cases o with
   | nil=>
    repeat' ((conv=>whnf);first|refine Idx.at (f:=i64) (l:=A) k om om ?_|exact kQ|(refine bk ?_ ?_<;>intro _<;>try exact exo)|refine stq ?_)
    (conv=>whnf)
    refine⟨k+1,[],⟨⟨om,om,om⟩,by rw[hs2];exact h4⟩,om,?_⟩;exact lq0
   | cons x xs=>
    repeat' ((conv=>whnf);first|refine Idx.at (f:=i64) (l:=A) k om om ?_|exact kQ|(refine bk ?_ ?_<;>intro _<;>try exact exo)|refine stq ?_)
    (conv=>whnf)
    refine⟨k+1,x::xs,⟨⟨om,om,om⟩,by rw[hs2];exact h4⟩,om,?_⟩;exact lq [(0,_)] []
 .rw[xw hl h3 om h3'] at h4;rw[<-h4];cases o with
  | nil=>
   repeat' ((conv=>whnf);first|exact kQ|(refine bk ?_ ?_<;>intro _<;>try exact exo)|refine stq ?_)
   (conv=>whnf)
   exact⟨.tup (.cons .nil (.cons (.same rfl) .nil))⟩
  | cons x xs=>
   repeat' ((conv=>whnf);first|exact kQ|(refine bk ?_ ?_<;>intro _<;>try exact exo)|refine stq ?_)
   (conv=>whnf)
   exact⟨.tup (.cons (mR (b:=x::xs) rfl rfl (aN _) rfl) (.cons (.same rfl) .nil))⟩
theorem Eg {d:Db}{text:List Int}(ho:d.ok) (hs:SmD d) (hv:DbV d) (hx:text.length<=999):@Pu gtR Tryz.prog 34 [dbD d,aC text] (.tup [ax (dY d text),i64 0]):=by
 letI:=gtR;have hA:=wt ho hs hv hx;have hl:=fC (p:=d.lin) (text:=text);have hB:Pu Tryz.prog 45 [aC (CY d text),i64 (text.length:Int)] (ax (dY d text)):=Dn (Nat.le_trans iz om);have hnb:=ak (dY d text);unfold CY at hB;generalize dY d text=R at *;generalize cn d.lin t4 text=A at *;have hcond:∀ k (h:k<A.length),sO A[k]=decide (A[k]=3):=λk h=>rfl
 refine pv Tryz.func34 ?_;repeat' ((conv=>whnf);first|exact kQ|(refine bk ?_ ?_<;>intro _<;>try exact exo)|refine stq ?_|refine cp hA ?_|fail)
 refine aG.by2 aB T0 (λ(k:Nat) (o:List Int)=>⟨tmp 38 [(1,aC text),(6,aC A),(8,aP 0 1 o),(9,i64 (k:Int))],⟨1,bS 0 (λx=>[i64 x]) o⟩⟩)
  (λk o=>(1<=k/\(k<=text.length\/k=1)/\k<=A.length)/\o=e8 sO A k) (λk _=>text.length-k) 1 [] ⟨om,xv.symm⟩ ?_ ?_
 .exact lq0
 intro k o ⟨⟨h3,h3',h3''⟩,h4⟩;have hol:o.length<=k:=by rw[h4];exact iz
 by_cases hk:k<text.length
 .have hkA:k<A.length:=om;have hcc:=hcond k hkA;have e0:A.getD k 0=A[k]:=aH hkA;by_cases hp:sO A[k]=true
  .have hs2:=rF (p:=sO) (A:=A) (k:=k) om om (by rw[e0];exact hp);rw[<-h4] at hs2;rw[hp] at hcc;have hcd:=of_decide_eq_true hcc.symm;cases o with
   | nil=>
    repeat' ((conv=>whnf);first|refine Idx.at (f:=i64) (l:=A) k om om ?_|exact kQ|(refine bk ?_ ?_<;>intro _<;>try exact exo)|refine stq ?_)
    (conv=>whnf)
    refine⟨k+1,[]++[(k:Int)],⟨⟨om,om,om⟩,hs2.symm⟩,om,?_⟩;exact lq [(0,_)] []
   | cons x xs=>
    have hlen:(x::xs).length<=1001:=by omega
    repeat' ((conv=>whnf);first|refine Idx.at (f:=i64) (l:=A) k om om ?_|exact kQ|(refine bk ?_ ?_<;>intro _<;>try exact exo)|refine stq ?_)
    (conv=>whnf)
    refine⟨k+1,_,⟨⟨om,om,om⟩,hs2.symm⟩,om,?_⟩;exact lq [(0,_)] []
  .have hp':sO A[k]=false:=by simpa using hp
   have hs2:=rH (p:=sO) (A:=A) (k:=k) (by rw[e0];exact hp');rw[hp'] at hcc;have hcd:=of_decide_eq_false hcc.symm;cases o with
   | nil=>
    repeat' ((conv=>whnf);first|refine Idx.at (f:=i64) (l:=A) k om om ?_|exact kQ|(refine bk ?_ ?_<;>intro _<;>try exact exo)|refine stq ?_)
    (conv=>whnf)
    refine⟨k+1,[],⟨⟨om,om,om⟩,by rw[hs2];exact h4⟩,om,?_⟩;exact lq0
   | cons x xs=>
    repeat' ((conv=>whnf);first|refine Idx.at (f:=i64) (l:=A) k om om ?_|exact kQ|(refine bk ?_ ?_<;>intro _<;>try exact exo)|refine stq ?_)
    (conv=>whnf)
    refine⟨k+1,x::xs,⟨⟨om,om,om⟩,by rw[hs2];exact h4⟩,om,?_⟩;exact lq [(0,_)] []
 .rw[xw hl h3 om h3'] at h4;rw[<-h4] at hB;cases o with
  | nil=>
   repeat' ((conv=>whnf);first|exact kQ|(refine bk ?_ ?_<;>intro _<;>try exact exo)|refine stv ?_)
   conv=>whnf
   refine bX.go aB T0 ?_;repeat' ((conv=>whnf);first|exact kQ|(refine bk ?_ ?_<;>intro _<;>try exact exo)|refine stv ?_)
   conv=>whnf
   refine bX.weak aB T0 (s0:=⟨tmp 38 [(1,aC text),(8,aC [])],⟨0,[]⟩⟩) ?_ ?_
   .exact lq0
   repeat' ((conv=>whnf);first|exact kQ|(refine bk ?_ ?_<;>intro _<;>try exact exo)|refine stq ?_|refine cp hB ?_|fail)
   (conv=>whnf)
   exact⟨Rd.eqd rfl (by simp[aK,aF,hnb])⟩
  | cons x xs=>
   repeat' ((conv=>whnf);first|exact kQ|(refine bk ?_ ?_<;>intro _<;>try exact exo)|refine stv ?_)
   conv=>whnf
   refine bX.go aB T0 ?_;repeat' ((conv=>whnf);first|exact kQ|(refine bk ?_ ?_<;>intro _<;>try exact exo)|refine stv ?_)
   conv=>whnf
   refine bX.weak aB T0 (s0:=⟨tmp 38 [(1,aC text),(8,aC (x::xs))],⟨0,[]⟩⟩) ?_ ?_
   .exact lq [] [0]
   repeat' ((conv=>whnf);first|exact kQ|(refine bk ?_ ?_<;>intro _<;>try exact exo)|refine stq ?_|refine cp hB ?_|fail)
   (conv=>whnf)
   exact⟨Rd.eqd rfl (by simp[aK,aF,hnb])⟩
end
end Go.Proofs.YtlimkdlhldlolaaGreatDoor
