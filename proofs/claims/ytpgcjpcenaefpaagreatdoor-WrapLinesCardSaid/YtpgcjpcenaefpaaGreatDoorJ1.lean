/-
  Contracts of functions over data: the actions at all positions of a text, by a database.
-/
import Derived.Test.YtpgcjpcenaefpaaGreatDoorHI
import Derived.Test.YtpgcjpcenaefpaaGreatDoorHE
import Derived.Test.YtpgcjpcenaefpaaGreatDoorHM
set_option linter.unusedSectionVars false
namespace Go.Proofs.YtpgcjpcenaefpaaGreatDoor
section
open Go Go.Am Classical
set_option maxRecDepth 100000
noncomputable instance gtI9:GT:=gtR
theorem e7 {p:Prp}{text:List Int}:(cm p t4 text).length=text.length+1:=by
 rw[cm,if_pos tv4.1,cj];simp[aV]
theorem xW {d:Db}{text:List Int}(ho:d.ok) (hs:SmD d) (hv:DbV d) (hx:text.length<=1000):@Pu gtR Tryz.prog 34 [dbD d,aD text] (.tup [aD (cm d.lin t4 text),i64 0]):=by
 letI:=gtR;obtain⟨e,he,hi⟩:=lO ho hs;obtain rfl:=hi.2 hv;have hsm:=hs.2.1 6 om;have hp:Pu Tryz.prog 58 [dbD d,i64 6] (bV d.lin):=pZ (λk hk=>hs.2.1 k hk) 6 om;have hA:=qK (p:=d.lin) (t:=t4) (text:=text) (ho.prop 6) tv4.2 (by have:=hsm.1;simp only[prop] at this;omega) (by have:=hsm.2;simp only[prop] at this;omega) hx;have hT:=Dn;refine pv Tryz.func34 ?_;repeat' ((conv=>whnf);first|exact kQ|(refine bk ?_ ?_<;>intro _<;>try exact exo)|refine stq ?_|refine cp he ?_|refine cp hp ?_|refine cp hT ?_|refine cp hA ?_|fail)
 all_goals(conv=>whnf)
 exact⟨Rd.eqd rfl (by simp[aK,aF,aM])⟩
theorem Ho {d:Db}{text:List Int}(ho:d.ok) (hs:SmD d) (hv:¬DbV d):@Pu gtR Tryz.prog 34 [dbD d,aD text] (.tup [aJ,i64 11]):=by
 letI:=gtR;obtain⟨e,he,hi⟩:=lO ho hs;have h0:e≠0:=λh=>hv (hi.1 h)
 refine pv Tryz.func34 ?_;repeat' ((conv=>whnf);first|exact kQ|(refine bk ?_ ?_<;>intro _<;>try exact exo)|refine stq ?_|refine cp he ?_|fail)
 all_goals(conv=>whnf)
 exact⟨Rd.eqd rfl rfl⟩
end
section
open Go Go.Am Classical
set_option maxRecDepth 100000
end
section
open Go Go.Am Classical
set_option maxRecDepth 100000
abbrev spS:Str:=[83,112,97,99,101]
abbrev zsS:Str:=[90,101,114,111,83,112,97,99,101]
end
section
open Go Go.Am Classical
set_option maxRecDepth 100000
theorem xJ4.rdX {p:Prop}(h:p:=by first|exact mJ rfl rfl rfl rfl|exact Rd.eqd rfl hnp|fail):p:=h
open xJ4
abbrev manS:Str:=[77,97,110,100,97,116,111,114,121]
abbrev crS:Str:=[67,82]
abbrev lfS:Str:=[76,70]
abbrev nlS:Str:=[78,101,119,108,105,110,101]
def hid (s:Str):Prop:=s=spS\/s=manS\/s=crS\/s=lfS\/s=nlS\/s=zsS
theorem FP (s:Str):@Pu gtR Tryz.prog 62 [.str s] (boo (decide (hid s))):=by
 letI:=gtR;refine pv Tryz.func62 ?_;repeat' ((conv=>whnf);first|exact kQ|(refine bk ?_ ?_<;>intro _<;>try exact exo)|refine stq ?_)
 all_goals(conv=>whnf)
 all_goals first
  | exact aC.yes (.inl asm)
  | exact aC.yes (.inr (.inl asm))
  | exact aC.yes (.inr (.inr (.inl asm)))
  | exact aC.yes (.inr (.inr (.inr (.inl asm))))
  | exact aC.yes (.inr (.inr (.inr (.inr (.inl asm)))))
  | exact aC.yes (.inr (.inr (.inr (.inr (.inr asm)))))
  | exact aC.no (λhc=>by rcases hc with h|h|h|h|h|h<;>contradiction)
noncomputable def nm4 (n:Int):Str:=cl4.getD n.toNat []
theorem El {n:Nat}(h:n<cl4.length):nm4 (n:Int)=cl4[n]:=by
 simp only[nm4,Int.toNat_natCast,aI h]
noncomputable def b6 (nv:List Int) (a:Nat):Nat->Nat
 | 0=>0
 | k+1=>if a<=k/\hid (nm4 (nv.getD k 0)) then b6 nv a k else k+1
theorem pH (nv:List Int) (a:Nat):∀ k,b6 nv a k<=k
 | 0=>kP _
 | k+1=>by
  simp only[b6];split
  .have:=pH nv a k;omega
  .omega
theorem uS (nv:List Int) (a:Nat):∀ k,a<=k->a<=b6 nv a k
 | 0=>λh=>h
 | k+1=>λh=>by
  simp only[b6];split
  .rename_i hc;exact uS nv a k hc.1
  .exact h
theorem sX {nv:List Int}{a k:Nat}(h:a<=k) (hq:hid (nm4 (nv.getD k 0))):b6 nv a (k+1)=b6 nv a k:=by
 simp only[b6];rw[if_pos ⟨h,hq⟩]
theorem sY {nv:List Int}{a k:Nat}(hq:¬hid (nm4 (nv.getD k 0))):b6 nv a (k+1)=k+1:=by
 simp only[b6];rw[if_neg λh=>hq h.2]
theorem wG {nv:List Int}{a k:Nat}(h:k<=a):b6 nv a k=k:=by
 cases k with
 | zero=>rfl
 | succ k=>simp only[b6];rw[if_neg λh=>by have:=h.1;omega]
noncomputable abbrev nvL (d:Db) (text:List Int):List Int:=aV d.lin cl4 text
theorem gC (d:Db) (text:List Int):(nvL d text).length=text.length:=by simp[aV]
theorem HX {d:Db}{text:List Int}{k:Nat}(h:k<text.length):(nvL d text).getD k 0=gE cl4 (fv d.lin text[k]):=by
 rw[aI (by rw[gC];exact h)];simp[aV]
theorem Eg {d:Db}{text:List Int}{k:Nat}(h:k<text.length):∃ n:Nat,n<cl4.length/\(nvL d text).getD k 0=(n:Int):=by
 letI:=gtR;have hq:=ip (p:=d.lin) (text:=text) (t:=t4) tv4.1 k (by rw[<-gC d text] at h;exact h);have hcl:t4.classes.length=28:=rfl;have hcl':cl4.length=28:=rfl;rw[aI (by rw[gC];exact h)];refine⟨((nvL d text)[k]'(by rw[gC];exact h)).toNat,?_,?_⟩
 .have h2:=hq.2;have h1:=hq.1;simp only[hcl] at h2;show((aV d.lin t4.classes text)[k]'(by rw[<-gC d text] at h;exact h)).toNat<_;omega
 .have h1:=hq.1;show((aV d.lin t4.classes text)[k]'(by rw[<-gC d text] at h;exact h))=((((aV d.lin t4.classes text)[k]'(by rw[<-gC d text] at h;exact h)).toNat:Nat):Int);omega
theorem mJ [GT] {h:aA}{fz:Nat->Bool}{σ:Nat->Option Nat}{id n cap:Nat}{b:List Int}{cs:List D}{ex bx:Bool}(hf:fz id=true) (hg:h.get id=some (.cells cs bx)) (ec:cs=b.map i64) (e:n=b.length):Rd h fz σ (.sl id 0 n cap 1 ex) (aD b):=by
 subst e;subst ec;refine .frz hf hg si (.eqs ?_ (aT (λ_=>rfl) _));rw[List.drop_zero,kE si]
theorem IQ {d:Db}{text:List Int}{k:Nat}(ho:d.ok) (h:k<text.length):@Pu gtR Tryz.prog 73 [dbD d,i64 text[k]] (boo (decide (hid (nm4 ((nvL d text).getD k 0))))):=by
 letI:=gtR;have hC:=EC;have hN:Pu Tryz.prog 98 [bV d.lin,strs cl4,aD [text[k]]] (aD (aV d.lin cl4 [text[k]])):=Bj (ho.prop 6) (by decide) si;have hn1:aV d.lin cl4 [text[k]]=[(nvL d text).getD k 0]:=by rw[HX h];rfl
 obtain⟨n,hn,e⟩:=Eg (d:=d) h;rw[hn1,e] at hN;rw[e,El hn];refine pv Tryz.func73 ?_;have hnp:=io d.lin;repeat' ((conv=>whnf);first|refine Idx.at (f:=D.str) (l:=cl4) n om om ?_|exact kQ|(refine bk ?_ ?_<;>intro _<;>try exact exo)|refine stq ?_|refine cp hC ?_|refine Cll.emb (hN ⟨0,[]⟩) [] [9] (aD [(n:Int)]) [] [(0,.cells (dbC d) true)] rfl cO bxA rdA bxA reA ?_)
 all_goals(conv=>whnf)
 all_goals first
  | exact aC.yes (.inl asm)
  | exact aC.yes (.inr (.inl asm))
  | exact aC.yes (.inr (.inr (.inl asm)))
  | exact aC.yes (.inr (.inr (.inr (.inl asm))))
  | exact aC.yes (.inr (.inr (.inr (.inr (.inl asm)))))
  | exact aC.yes (.inr (.inr (.inr (.inr (.inr asm)))))
  | exact aC.no (λhc=>by rcases hc with h|h|h|h|h|h<;>contradiction)
end
section
open Go Go.Am Classical
set_option maxRecDepth 100000
abbrev dK (a b:Int):D:=.agg [i64 a,i64 b]
theorem rvis_c {d:Db}{text:List Int}{a b:Nat}(ho:d.ok) (hs:SmD d) (hv:DbV d) (hx:text.length<=40) (hab:a<=b) (hb:b<=text.length) :
  @Pu gtR Tryz.prog 55 [dbD d,aD text,dK a b] (.tup [dK a (b6 (nvL d text) a b),i64 0]):=by
 letI:=gtR;obtain⟨e,he,hi⟩:=d6 ho hs;obtain rfl:=hi.2 hv;refine pv Tryz.func55 ?_;repeat' ((conv=>whnf);first|exact kQ|(refine bk ?_ ?_<;>intro _<;>try exact exo)|refine stq ?_|refine cp he ?_|fail)
 refine aG.by aB T0 (λk:Nat=>⟨tmp 50 [(1,aD text),(3,.ptr 0 0),(5,.ptr 1 0),(6,.ptr 2 0)],⟨3,[(2,.cells [i64 0,i64 0] true),(1,.cells [i64 a,i64 (k:Int)] true),(0,.cells (dbC d) true)]⟩⟩)
  (λk=>a<=k/\k<=b/\b6 (nvL d text) a k=b6 (nvL d text) a b) (λk=>k) b ⟨hab,kP _,rfl⟩ ?_ ?_
 .exact lq [(0,_),(1,_),(2,_)] []
 intro k ⟨h3,h4,h5⟩;by_cases hk:a<k
 .obtain⟨j,rfl⟩:∃ j,k=j+1:=⟨k-1,om⟩;have hB:=IQ (d:=d) ho (show j<text.length by omega);by_cases hq:hid (nm4 ((nvL d text).getD j 0))
  .rw[decide_eq_true hq] at hB;repeat' ((conv=>whnf);first|refine Idx.at (f:=i64) (l:=text) j om om ?_|exact kQ|(refine bk ?_ ?_<;>intro _<;>try exact exo)|refine stq ?_|refine cp hB ?_|refine ac.by aB T0 [0,1,0,4,15,31,63,63,63,319,831,1983,4031,8191,16383] (by kernel_rfl) ?_)
   all_goals(conv=>whnf)
   refine⟨j,⟨om,om,by rw[<-h5,sX om hq]⟩,om,?_⟩;exact lq [(0,_),(1,_),(2,_)] []
  .rw[decide_eq_false hq] at hB;repeat' ((conv=>whnf);first|refine Idx.at (f:=i64) (l:=text) j om om ?_|exact kQ|(refine bk ?_ ?_<;>intro _<;>try exact exo)|refine stq ?_|refine cp hB ?_|refine ac.by aB T0 [0,1,0,4,15,31,63,63,63,319,831,1983,4031,8191,16383] (by kernel_rfl) ?_)
   all_goals(conv=>whnf)
   rw[<-h5,sY hq];exact⟨Rd.eqd rfl rfl⟩
 .repeat' ((conv=>whnf);first|exact kQ|(refine bk ?_ ?_<;>intro _<;>try exact exo)|refine stq ?_|refine ac.by aB T0 [0,1,0,4,15,31,63,63,63,319,831,1983,4031,8191,16383] (by kernel_rfl) ?_)
  all_goals(conv=>whnf)
  rw[<-h5,wG om];exact⟨Rd.eqd rfl rfl⟩
theorem Gg {d:Db}{text:List Int}{a b:Nat}(ho:d.ok) (hs:SmD d) (hv:DbV d) (hx:text.length<=40) (hab:a<=b) (hb:b<=text.length) :
  @Pu gtR Tryz.prog 38 [dbD d,aD text,dK a b] (.tup [dK a (b6 (nvL d text) a b),i64 0]):=by
 letI:=gtR;obtain⟨e,he,hi⟩:=lO ho hs;obtain rfl:=hi.2 hv;have hsm:=hs.2.1 6 om;have hp:Pu Tryz.prog 58 [dbD d,i64 6] (bV d.lin):=pZ (λk hk=>hs.2.1 k hk) 6 om;have hT:=Dn
 have ec:(D.imm ((b:Int)-(a:Int)).toNat (((text.map i64).drop ((a:Int).toNat*1)).take (((b:Int)-(a:Int)).toNat*1)):D)=aD ((text.drop a).take (b-a)):=by
  rw[show((b:Int)-(a:Int)).toNat=b-a from om,Nat.mul_one,Nat.mul_one,Int.toNat_natCast,<-List.map_drop,<-List.map_take];show _=D.imm _ _;rw[show((text.drop a).take (b-a)).length=b-a from by simp;omega]
 have en:aV d.lin cl4 ((text.drop a).take (b-a))=((nvL d text).drop a).take (b-a):=by simp[aV,List.map_take,List.map_drop]
 have hA:Pu Tryz.prog 61 [bV d.lin,gQ t4,aD ((text.drop a).take (b-a))] (aD (((nvL d text).drop a).take (b-a))):=by
  have h:=uD (p:=d.lin) (t:=t4) (text:=(text.drop a).take (b-a)) (ho.prop 6) tv4.2 (by simp;omega) (by have:=hsm.2;simp only[prop] at this;omega) (by have:=hsm.1;simp only[prop] at this;omega);rw[if_pos tv4.1] at h;rw[<-en];exact h
 rw[<-ec] at hA;have hnl:=gC d text
 have hq:∀ i (h:i<(((nvL d text).drop a).take (b-a)).length),(((nvL d text).drop a).take (b-a))[i]=(nvL d text).getD (a+i) 0:=λi h=>by
  have h':i<b-a:=by simp at h;omega
  rw[aI om];simp
 have hl2:(((nvL d text).drop a).take (b-a)).length=b-a:=by simp;omega
 have hcl:t4.classes=cl4:=rfl;generalize((nvL d text).drop a).take (b-a)=nvp at *;generalize t4=t at *;refine pv Tryz.func38 ?_;repeat' ((conv=>whnf);first|refine Chk.mk ⟨om,om,om,(by show(List.map i64 text).length=text.length*1;simp)⟩ ?_|exact kQ|(refine bk ?_ ?_<;>intro _<;>try exact exo)|refine stq ?_|refine cp he ?_|refine cp hp ?_|refine cp hT ?_|refine cp hA ?_|refine ac.by aB T0 [0,1,0,0,0,16,0,64,248,511,1023] (by kernel_rfl) ?_|fail)
 refine aG.by aB T0 (λk:Nat=>⟨tmp 67 [(5,.ptr 0 0),(6,.ptr 1 0),(8,.ptr 2 0),(9,aD nvp),(10,i64 ((k:Int)-a-1))],⟨3,[(0,.cells [i64 a,i64 (k:Int)] true),(1,.cells [i64 0,i64 0] true),(2,.cells [strs t.classes,aD t.actions,bS t.left.next,bS t.left.marks,bS t.right.next,bS t.right.marks] true)]⟩⟩)
  (λk=>a<=k/\k<=b/\b6 (nvL d text) a k=b6 (nvL d text) a b) (λk=>k) b ⟨hab,kP _,rfl⟩ ?_ ?_
 .exact lq [(0,_),(1,_),(2,_)] []
 intro k ⟨h3,h4,h5⟩;by_cases hk:a<k
 .obtain⟨j,rfl⟩:∃ j,k=j+1:=⟨k-1,om⟩;obtain⟨n,hn,en⟩:=Eg (d:=d) (show j<text.length by omega);have hn':n<t.classes.length:=by rw[hcl];exact hn
  have ej:nvp[j-a]'(by omega)=(n:Int):=by rw[hq,show a+(j-a)=j by omega,en]
  have e4:nm4 ((nvL d text).getD j 0)=t.classes[n]:=by
   rw[en,El hn];simp only[hcl]
  have hB:=FP (t.classes[n]);by_cases hq2:hid (nm4 ((nvL d text).getD j 0))
  .rw[<-e4,decide_eq_true hq2,e4] at hB;repeat' ((conv=>whnf);first|refine Idx.at (f:=D.str) (l:=t.classes) n om om ?_|refine Idx.at (f:=i64) (l:=nvp) (j-a) om om ?_|exact kQ|(refine bk ?_ ?_<;>intro _<;>try exact exo)|refine stq ?_|refine cp hB ?_|refine ac.by aB T0 [0,1,3,7,15,7,7,103,231,511,1023,2047,4095] (by kernel_rfl) ?_)
   all_goals(conv=>whnf)
   refine⟨j,⟨om,om,by rw[<-h5,sX om hq2]⟩,om,?_⟩;exact lq [(0,_),(1,_),(2,_)] []
  .rw[<-e4,decide_eq_false hq2,e4] at hB;repeat' ((conv=>whnf);first|refine Idx.at (f:=D.str) (l:=t.classes) n om om ?_|refine Idx.at (f:=i64) (l:=nvp) (j-a) om om ?_|exact kQ|(refine bk ?_ ?_<;>intro _<;>try exact exo)|refine stq ?_|refine cp hB ?_|refine ac.by aB T0 [0,1,3,7,15,7,7,103,231,511,1023,2047,4095] (by kernel_rfl) ?_)
   all_goals(conv=>whnf)
   rw[<-h5,sY hq2];exact⟨Rd.eqd rfl rfl⟩
 .repeat' ((conv=>whnf);first|exact kQ|(refine bk ?_ ?_<;>intro _<;>try exact exo)|refine stq ?_|refine ac.by aB T0 [0,1,3,7,15,7,7,103,231,511,1023,2047,4095] (by kernel_rfl) ?_)
  all_goals(conv=>whnf)
  rw[<-h5,wG om];exact⟨Rd.eqd rfl rfl⟩
section
variable [GT]
theorem eqB {P:Program}{t:TypeId}{f0 f1:Field}{k:IntKind}{a b c e:Int}{ox oy:Operand}(h:P.underlying t=some (.struct #[f0,f1])) (hs:P.stoodInHeld t=false) (n0:f0.name ≠ "_") (n1:f1.name ≠ "_") (o0:f0.offset=0) (o1:f1.offset=1) (t0:P.underlying f0.type=some (.int k)) (t1:P.underlying f1.type=some (.int k)) (hg:P.eqGuardType P.depth t=false) :
  cJ P .eql t ox oy (.agg [i64 a,i64 b]) (.agg [i64 c,i64 e])=some (.v (.bool (a == c&&b == e))):=by
 have e1:bo P (do eqGuard .eql t ox oy (.agg #[.int .i64 a,.int .i64 b]) (.agg #[.int .i64 c,.int .i64 e]);binOp .eql t (.agg #[.int .i64 a,.int .i64 b]) (.agg #[.int .i64 c,.int .i64 e]))=some (.bool (a == c&&b == e)):=by
  have e2:bo P (Op.equalIn 10000 t (.agg #[.int .i64 a,.int .i64 b]) (.agg #[.int .i64 c,.int .i64 e]))=some (a == c&&b == e):=oX (d:=9998) h hs n0 n1 o0 o1 t0 t1;simp[eqGuard,binOp,dM,fV,hg,Op.equal,Op.maxDepth,e2,fI,tA]
 have e3:cJ P .eql t ox oy (.agg [i64 a,i64 b]) (.agg [i64 c,i64 e])=(match bo P (do eqGuard .eql t ox oy (.agg #[.int .i64 a,.int .i64 b]) (.agg #[.int .i64 c,.int .i64 e]);binOp .eql t (.agg #[.int .i64 a,.int .i64 b]) (.agg #[.int .i64 c,.int .i64 e])) with|some r=>ofV r|none=>none):=rfl;rw[e3,e1];rfl
theorem HY {a b:Int}{ox oy:Operand}:cJ Tryz.prog .neq 52 ox oy (.agg [i64 a,i64 b]) (.agg [i64 a,i64 b])=some (.v (.bool false)):=by
 rw[pN];simp
theorem kV {a b c e:Int}{ox oy:Operand}(h:¬(a=c/\b=e)):cJ Tryz.prog .neq 52 ox oy (.agg [i64 a,i64 b]) (.agg [i64 c,i64 e])=some (.v (.bool true)):=by
 rw[pN];simp only[kA,D.v.injEq,Value.bool.injEq,Bool.not_eq_true',Bool.and_eq_false_imp,beq_iff_eq,beq_eq_false_iff_ne];exact λh1 h2=>h ⟨h1,h2⟩
end
end
section
open Go Go.Am Classical
set_option maxRecDepth 100000
theorem xJ6.rdX {p:Prop}(h:p:=by first|exact Rd.sl' rfl sim sim|fail):p:=h
theorem xJ6.rbX {p:Prop}(h:p:=by first|exact Rb.cells (Rds.eqs (aS (by intro _;rfl) (x::xs) _) (aE (by intro _;rfl) _)) rfl|fail):p:=h
open xJ6
def eo (p:Int->Bool) (A:List Int) (k:Nat):List Int:=
 ((List.range k).filter λi=>decide (0<i/\i+1<A.length)&&p (A.getD i 0)).map λi:Nat=>(i:Int)
theorem Ce {p:Int->Bool}{A:List Int}:eo p A 0=[]:=rfl
theorem qz {p:Int->Bool}{A:List Int}{k:Nat}(h0:0<k) (h1:k+1<A.length) (h:p (A.getD k 0)=true):eo p A (k+1)=eo p A k++[(k:Int)]:=by
 unfold eo;have e:(decide (0<k/\k+1<A.length)&&p (A.getD k 0))=true:=by rw[h,decide_eq_true ⟨h0,h1⟩];rfl
 rw[List.range_succ,List.filter_append,List.map_append];simp only[List.filter_cons,e,if_true,List.filter_nil,List.map_cons,List.map_nil]
theorem rA {p:Int->Bool}{A:List Int}{k:Nat}(h:p (A.getD k 0)=false):eo p A (k+1)=eo p A k:=by
 unfold eo;rw[List.range_succ,List.filter_append,List.map_append];simp only[h,Bool.and_false,List.filter_cons,List.filter_nil,Bool.false_eq_true,if_false,List.map_nil,List.append_nil]
theorem q9 {p:Int->Bool}{A:List Int}{k:Nat}(h:¬(0<k/\k+1<A.length)):eo p A (k+1)=eo p A k:=by
 unfold eo;rw[List.range_succ,List.filter_append,List.map_append];simp only[h,decide_false,Bool.false_and,List.filter_cons,List.filter_nil,Bool.false_eq_true,if_false,List.map_nil,List.append_nil]
theorem ix {p:Int->Bool}{A:List Int}{k:Nat}:(eo p A k).length<=k:=by
 unfold eo;rw[List.length_map];exact Nat.le_trans (List.length_filter_le _ _) si
theorem rB {p:Int->Bool}{A:List Int}{k:Nat}{x:Int}:x∈eo p A k↔∃ i:Nat,x=(i:Int)/\i<k/\0<i/\i+1<A.length/\p (A.getD i 0)=true:=by
 unfold eo;simp only[List.mem_map,List.mem_filter,List.mem_range,kC,decide_eq_true_eq];constructor
 .rintro⟨i,⟨h1,⟨h2,h3⟩,h4⟩,rfl⟩;exact⟨i,rfl,h1,h2,h3,h4⟩
 .rintro⟨i,rfl,h1,h2,h3,h4⟩;exact⟨i,⟨h1,⟨h2,h3⟩,h4⟩,rfl⟩
theorem FK {p:Int->Bool}{A:List Int}{k:Nat}:(eo p A k).Pairwise (· < ·):=by
 unfold eo;rw[List.pairwise_map];exact(List.Pairwise.filter _ List.pairwise_lt_range).imp λh=>by omega
theorem xh {p:Int->Bool}{A:List Int}{n k:Nat}(hA:A.length=n+1) (_:1<=k) (h2:n<=k) (h3:k<=n\/k=1):eo p A k=eo p A A.length:=by
 rw[hA];by_cases h:k=n+1
 .rw[h]
 .obtain rfl:k=n:=by omega
  rw[q9 om]
def lS:Int->List Int->List Rng
 | _,[]=>[]
 | s,e::l=>if s=e then lS e l else⟨s,e⟩::lS e l
theorem um {s e:Int}{l:List Int}(h:s=e):lS s (e::l)=lS e l:=by rw[lS,if_pos h]
theorem zO {s e:Int}{l:List Int}(h:¬s=e):lS s (e::l)=⟨s,e⟩::lS e l:=by rw[lS,if_neg h]
theorem Aj [GT]:∀ {l:List Int}{s:Int},(s::l).Pairwise (·<=·)->lS s l=btw s l
 | [],_,_=>rfl
 | e::l,s,h=>by
  have h1:=(List.pairwise_cons.1 h).1 e si;have ih:=Aj (List.pairwise_cons.1 h).2;by_cases he:s=e
  .subst he;rw[um rfl,dW om,ih]
  .rw[zO he,cF om,ih]
theorem A9 {p:Int->Bool}{A:List Int}{n:Nat}(hA:A.length=n+1):(0::(eo p A A.length++[(n:Int)])).Pairwise (·<=·):=by
 rw[List.pairwise_cons,List.pairwise_append];refine⟨λa ha=>?_,FK.imp λh=>om,si,λa ha b hb=>?_⟩
 .rcases List.mem_append.1 ha with h|h
  .obtain⟨i,rfl,h1,h2,h3,h4⟩:=rB.1 h;omega
  .simp at h;omega
 .simp at hb;obtain⟨i,rfl,h1,h2,h3,h4⟩:=rB.1 ha;omega
def pB (n:Int):Bool:=decide (n=2\/n=3)
def sB (n:Int):Bool:=decide (n=3)
section
variable [GT]
theorem opp1_c (n:Int):Pu Tryz.prog 36 [i64 n] (boo (pB n)):=by
 unfold pB;refine pv Tryz.func36 ?_;repeat' ((conv=>whnf);first|exact kQ|(refine bk ?_ ?_<;>intro _<;>try exact exo)|refine stq ?_)
 all_goals(conv=>whnf)
 all_goals first
  | exact aC.yes om
  | exact aC.no om
theorem par1_c (n:Int):Pu Tryz.prog 37 [i64 n] (boo (sB n)):=by
 unfold sB;refine pv Tryz.func37 ?_;repeat' ((conv=>whnf);first|exact kQ|(refine bk ?_ ?_<;>intro _<;>try exact exo)|refine stq ?_)
 all_goals(conv=>whnf)
 all_goals first
  | exact aC.yes om
  | exact aC.no om
theorem tZ {l:List Int}{g:FuncId}{p:Int->Bool}(hf:∀ n,Pu Tryz.prog g [i64 n] (boo (p n))) (hl:l.length<=1001):Pk Tryz.prog 35 [aD l,.fn (.func g) [] []] 1 (λn=>aP n 1 (eo p l l.length)) (λn=>bK n (λx=>[i64 x]) (eo p l l.length)):=by
 refine Pk.of_v aB T0 Tryz.func35 rfl rfl (by simp[aK,aF,aM]) ?_;repeat' ((conv=>whnf);first|exact kQ|(refine bk ?_ ?_<;>intro _<;>try exact exo)|refine stq ?_)
 refine aG.by2 aB T0 (λ(k:Nat) (o:List Int)=>⟨tmp 35 [(0,aD l),(1,.fn (.func g) [] []),(5,aP 0 1 o),(8,aD l),(9,i64 (l.length:Int)),(10,i64 (k:Int))],⟨1,bK 0 (λx=>[i64 x]) o⟩⟩)
  (λk o=>k<=l.length/\o=eo p l k) (λk _=>l.length-k) 0 [] ⟨om,rfl⟩ ?_ ?_
 .exact lq0
 intro k o ⟨h3,h4⟩;have hol:o.length<=k:=by rw[h4];exact ix
 by_cases hk:k<l.length
 .have e0:l.getD k 0=l[k]:=aI hk;by_cases hin:0<k/\k+1<l.length
  .have hc:=hf l[k];by_cases hp:p l[k]=true
   .rw[hp] at hc;have hs:=qz (p:=p) (A:=l) hin.1 hin.2 (by rw[e0];exact hp);rw[<-h4] at hs;cases o with
    | nil=>
     repeat' ((conv=>whnf);first|exact kQ|(refine bk ?_ ?_<;>intro _<;>try exact exo)|refine stq ?_|refine cp hc ?_|fail)
     all_goals(conv=>whnf)
     refine⟨k+1,[]++[(k:Int)],⟨om,hs.symm⟩,om,?_⟩;exact lq [(0,_)] []
    | cons x xs=>
     have hlen:(x::xs).length<=1001:=by omega
     repeat' ((conv=>whnf);first|exact kQ|(refine bk ?_ ?_<;>intro _<;>try exact exo)|refine stq ?_|refine cp hc ?_|fail)
     all_goals(conv=>whnf)
     refine⟨k+1,_,⟨om,hs.symm⟩,om,?_⟩;exact lq [(0,_)] []
   .have hp':p l[k]=false:=by simpa using hp
    rw[hp'] at hc;have hs:=rA (p:=p) (A:=l) (k:=k) (by rw[e0];exact hp');cases o with
    | nil=>
     repeat' ((conv=>whnf);first|exact kQ|(refine bk ?_ ?_<;>intro _<;>try exact exo)|refine stq ?_|refine cp hc ?_|fail)
     all_goals(conv=>whnf)
     refine⟨k+1,[],⟨om,by rw[hs];exact h4⟩,om,?_⟩;exact lq0
    | cons x xs=>
     repeat' ((conv=>whnf);first|exact kQ|(refine bk ?_ ?_<;>intro _<;>try exact exo)|refine stq ?_|refine cp hc ?_|fail)
     all_goals(conv=>whnf)
     refine⟨k+1,x::xs,⟨om,by rw[hs];exact h4⟩,om,?_⟩;exact lq [(0,_)] []
  .have hs:=q9 (p:=p) (A:=l) hin;cases o with
   | nil=>
    repeat' ((conv=>whnf);first|exact kQ|(refine bk ?_ ?_<;>intro _<;>try exact exo)|refine stq ?_)
    all_goals(conv=>whnf)
    all_goals
     refine⟨k+1,[],⟨om,by rw[hs];exact h4⟩,om,?_⟩;exact lq0
   | cons x xs=>
    repeat' ((conv=>whnf);first|exact kQ|(refine bk ?_ ?_<;>intro _<;>try exact exo)|refine stq ?_)
    all_goals(conv=>whnf)
    all_goals
     refine⟨k+1,x::xs,⟨om,by rw[hs];exact h4⟩,om,?_⟩;exact lq [(0,_)] []
 obtain rfl:k=l.length:=by omega
 rw[<-h4];cases o with
 | nil=>
  repeat' ((conv=>whnf);first|exact kQ|(refine bk ?_ ?_<;>intro _<;>try exact exo)|refine stq ?_)
  all_goals(conv=>whnf)
  exact⟨[0],rfl,⟨si,λn=>.same rfl,λn=>.nil⟩⟩
 | cons x xs=>
  repeat' ((conv=>whnf);first|exact kQ|(refine bk ?_ ?_<;>intro _<;>try exact exo)|refine stq ?_)
  all_goals(conv=>whnf)
  exact⟨[0],rfl,⟨si,λn=>Rd.own si (by simp[sgn]) rfl rfl,λn=>.cons (id:=0) (by simp[sgn]) rfl rfl (Rb.cells (Rds.same (aE (λ_=>rfl) _)) rfl) .nil⟩⟩
end
end
section
open Go Go.Am Classical
set_option maxRecDepth 100000
theorem xJ7.rdX {p:Prop}(h:p:=by first|exact mJ rfl rfl (by first|(rw[hE];rfl;done)|fail) om|exact Rd.sl' rfl sim sim|exact mJ rfl rfl (by first|(rw[hE];exact Bb (x::xs) _;done)|fail) (by first|(simp[hE];done)|fail)|fail):p:=h
theorem xJ7.rbX {p:Prop}(h:p:=by first|exact Rb.cells (Rds.eqs (aS (c:=bm) (sz:=2) (by intro _;rfl) (x::xs) (⟨s,E[k]⟩:Rng)) (aE (by intro _;rfl) _)) rfl|fail):p:=h
open xJ7
theorem zq [GT] {h:aA}{fz:Nat->Bool}{σ:Nat->Option Nat}{id n cap:Nat}{b:List Rng}{cs:List D}{ex bx:Bool}(hf:fz id=true) (hg:h.get id=some (.cells cs bx)) (ec:cs=b.flatMap bm) (e:n=b.length):Rd h fz σ (.sl id 0 n cap 2 ex) (aq b):=by
 subst e;subst ec;refine .frz hf hg (by rw[aZ (sz:=2) (λ_=>rfl)];omega) (.eqs ?_ (aE (λ_=>rfl) _));rw[List.drop_zero,kE (by rw[aZ (sz:=2) (λ_=>rfl)];exact kP _)]
theorem Bb (l:List Int) (x:Int):((l.flatMap λx=>[i64 x]).drop 0).take (l.length*1)++[i64 x]=(l++[x]).map i64:=by
 rw[aS (c:=λx=>[i64 x]) (sz:=1) (λ_=>rfl) l x,aN]
noncomputable abbrev ut (d:Db) (text:List Int):List Int:=eo pB (cm d.lin t4 text) (cm d.lin t4 text).length
noncomputable abbrev CG (d:Db) (text:List Int):List Int:=eo sB (cm d.lin t4 text) (cm d.lin t4 text).length
noncomputable abbrev jL (d:Db) (text:List Int):List Rng:=btw 0 (CG d text++[(text.length:Int)])
theorem Ap {d:Db}{text:List Int}(ho:d.ok) (hs:SmD d) (hv:DbV d) (hx:text.length<=1000):@Pu gtR Tryz.prog 14 [dbD d,aD text] (.tup [aD (ut d text),i64 0]):=by
 letI:=gtR;have hA:=xW (text:=text) ho hs hv hx;have hl:=e7 (p:=d.lin) (text:=text);unfold ut;generalize cm d.lin t4 text=A at *;refine pv Tryz.func14 ?_;have hI:=tZ (l:=A) opp1_c om;cases he:eo pB A A.length with
 | nil=>
  rw[he] at hI;repeat' ((conv=>whnf);first|exact kQ|(refine bk ?_ ?_<;>intro _<;>try exact exo)|refine stq ?_|refine cp hA ?_|refine Cll.pk hI ?_)
  all_goals(conv=>whnf)
  exact⟨.tup (.cons .nil (.cons (.same rfl) .nil))⟩
 | cons x xs=>
  rw[he] at hI;repeat' ((conv=>whnf);first|exact kQ|(refine bk ?_ ?_<;>intro _<;>try exact exo)|refine stq ?_|refine cp hA ?_|refine Cll.pk hI ?_)
  all_goals(conv=>whnf)
  exact⟨.tup (.cons (mJ (b:=x::xs) rfl rfl (aN _) rfl) (.cons (.same rfl) .nil))⟩
theorem opp_no {d:Db}{text:List Int}(ho:d.ok) (hs:SmD d) (hv:¬DbV d):@Pu gtR Tryz.prog 14 [dbD d,aD text] (.tup [aJ,i64 11]):=by
 letI:=gtR;have hA:=Ho (text:=text) ho hs hv;refine pv Tryz.func14 ?_;repeat' ((conv=>whnf);first|exact kQ|(refine bk ?_ ?_<;>intro _<;>try exact exo)|refine stq ?_|refine cp hA ?_|fail)
 all_goals(conv=>whnf)
 exact⟨Rd.eqd rfl rfl⟩
theorem kW [GT] {a b c:Int}{ox oy:Operand}(h:b=c):cJ Tryz.prog .neq 52 ox oy (.agg [i64 a,i64 b]) (.agg [i64 a,i64 c])=some (.v (.bool false)):=by
 subst h;exact HY
set_option maxHeartbeats 8000000 in
theorem HQ {d:Db}{text:List Int}(ho:d.ok) (hs:SmD d) (hv:DbV d) (hx:text.length<=999):@Pu gtR Tryz.prog 15 [dbD d,aD text] (.tup [aq (jL d text),i64 0]):=by
 letI:=gtR;have hA:=xW (text:=text) ho hs hv om;have hl:=e7 (p:=d.lin) (text:=text);have hR:lS 0 (CG d text++[(text.length:Int)])=jL d text:=Aj (A9 hl);have hSl:(CG d text).length<=1000:=Nat.le_trans ix om;unfold CG at hR hSl;generalize jL d text=R at *;generalize cm d.lin t4 text=A at *;refine pv Tryz.func15 ?_;have hI:=tZ (l:=A) par1_c om;cases he:eo sB A A.length with
 | nil=>
  rw[he] at hR hI;obtain⟨E,hE⟩:∃ E,E=([]:List Int)++[(text.length:Int)]:=⟨_,rfl⟩;rw[<-hE] at hR;have hEl:E.length=1:=by rw[hE];rfl
  repeat' ((conv=>whnf);first|exact kQ|(refine bk ?_ ?_<;>intro _<;>try exact exo)|refine stq ?_|refine cp hA ?_|refine Cll.pk hI ?_|fail)
  refine aG.by3 aB T0 (λ(k:Nat) (s:Int) (o:List Rng)=>⟨tmp 52 [(9,aP 0 2 o),(10,i64 s),(30,aD E),(31,i64 (E.length:Int)),(32,i64 (k:Int))],⟨1,bK 0 bm o⟩⟩)
   (λk s o=>(k<=E.length/\o.length<=k)/\lS 0 E=o++lS s (E.drop k)) (λk _ _=>E.length-k) 0 0 [] ⟨⟨om,si⟩,rfl⟩ ?_ ?_
  .exact lq [] [18,19,20,21,22,23,24,25,26,27]
  intro k s o ⟨⟨h3,h5⟩,h4⟩;by_cases hk:k<E.length
  .have ed:E.drop k=E[k]::E.drop (k+1):=kK hk;by_cases hse:s=E[k]
   .rw[ed,um hse] at h4;cases o with
    | nil=>
     repeat' ((conv=>whnf);first|exact kQ|(refine bk ?_ ?_<;>intro _<;>try exact exo)|refine stq ?_|(split<;>rename_i heq<;>first|(obtain rfl:=Option.some.inj ((kW hse.symm).symm.trans heq))|exact absurd ((kW hse.symm).symm.trans heq) si))
     all_goals(conv=>whnf)
     refine⟨k+1,E[k],[],⟨⟨om,si⟩,h4⟩,om,?_⟩;exact lq0
    | cons x xs=>
     repeat' ((conv=>whnf);first|exact kQ|(refine bk ?_ ?_<;>intro _<;>try exact exo)|refine stq ?_|(split<;>rename_i heq<;>first|(obtain rfl:=Option.some.inj ((kW hse.symm).symm.trans heq))|exact absurd ((kW hse.symm).symm.trans heq) si))
     all_goals(conv=>whnf)
     refine⟨k+1,E[k],x::xs,⟨⟨om,om⟩,h4⟩,om,?_⟩;exact lq [(0,_)] []
   .have hne:¬(s=s/\E[k]=s):=λh=>hse h.2.symm
    rw[ed,zO hse] at h4;cases o with
    | nil=>
     repeat' ((conv=>whnf);first|exact kQ|(refine bk ?_ ?_<;>intro _<;>try exact exo)|refine stq ?_|(split<;>rename_i heq<;>first|(obtain rfl:=Option.some.inj ((kV hne).symm.trans heq))|exact absurd ((kV hne).symm.trans heq) si))
     all_goals(conv=>whnf)
     refine⟨k+1,E[k],[⟨s,E[k]⟩],⟨⟨om,si⟩,h4⟩,om,?_⟩;exact lq [(0,_)] []
    | cons x xs=>
     have hlen:(x::xs).length<=1001:=by omega
     repeat' ((conv=>whnf);first|exact kQ|(refine bk ?_ ?_<;>intro _<;>try exact exo)|refine stq ?_|(split<;>rename_i heq<;>first|(obtain rfl:=Option.some.inj ((kV hne).symm.trans heq))|exact absurd ((kV hne).symm.trans heq) si))
     all_goals(conv=>whnf)
     refine⟨k+1,E[k],(x::xs)++[⟨s,E[k]⟩],⟨⟨om,by rw[kG];simp only[List.length_singleton];omega⟩,by rw[h4,List.append_assoc];rfl⟩,om,?_⟩;exact lq [(0,_)] []
  .rw[List.drop_of_length_le om,lS,List.append_nil] at h4;rw[<-hR,h4];cases o with
   | nil=>
    repeat' ((conv=>whnf);first|exact kQ|(refine bk ?_ ?_<;>intro _<;>try exact exo)|refine stq ?_)
    all_goals(conv=>whnf)
    exact⟨.tup (.cons .nil (.cons (.same rfl) .nil))⟩
   | cons x xs=>
    repeat' ((conv=>whnf);first|exact kQ|(refine bk ?_ ?_<;>intro _<;>try exact exo)|refine stq ?_)
    all_goals(conv=>whnf)
    exact⟨.tup (.cons (zq (b:=x::xs) rfl rfl rfl rfl) (.cons (.same rfl) .nil))⟩
 | cons x xs=>
  rw[he] at hR hSl hI;obtain⟨E,hE⟩:∃ E,E=(x::xs)++[(text.length:Int)]:=⟨_,rfl⟩;rw[<-hE] at hR;have hEl:E.length=(x::xs).length+1:=by rw[hE];simp
  have hxl:(x::xs).length=xs.length+1:=rfl;repeat' ((conv=>whnf);first|exact kQ|(refine bk ?_ ?_<;>intro _<;>try exact exo)|refine stq ?_|refine cp hA ?_|refine Cll.pk hI ?_|fail)
  refine aG.by3 aB T0 (λ(k:Nat) (s:Int) (o:List Rng)=>⟨tmp 52 [(9,aP 0 2 o),(10,i64 s),(30,aD E),(31,i64 (E.length:Int)),(32,i64 (k:Int))],⟨1,bK 0 bm o⟩⟩)
   (λk s o=>(k<=E.length/\o.length<=k)/\lS 0 E=o++lS s (E.drop k)) (λk _ _=>E.length-k) 0 0 [] ⟨⟨om,si⟩,rfl⟩ ?_ ?_
  .exact lq [] [18,19,20,21,22,23,24,25,26,27]
  intro k s o ⟨⟨h3,h5⟩,h4⟩;by_cases hk:k<E.length
  .have ed:E.drop k=E[k]::E.drop (k+1):=kK hk;by_cases hse:s=E[k]
   .rw[ed,um hse] at h4;cases o with
    | nil=>
     repeat' ((conv=>whnf);first|exact kQ|(refine bk ?_ ?_<;>intro _<;>try exact exo)|refine stq ?_|(split<;>rename_i heq<;>first|(obtain rfl:=Option.some.inj ((kW hse.symm).symm.trans heq))|exact absurd ((kW hse.symm).symm.trans heq) si))
     all_goals(conv=>whnf)
     refine⟨k+1,E[k],[],⟨⟨om,si⟩,h4⟩,om,?_⟩;exact lq0
    | cons x xs=>
     repeat' ((conv=>whnf);first|exact kQ|(refine bk ?_ ?_<;>intro _<;>try exact exo)|refine stq ?_|(split<;>rename_i heq<;>first|(obtain rfl:=Option.some.inj ((kW hse.symm).symm.trans heq))|exact absurd ((kW hse.symm).symm.trans heq) si))
     all_goals(conv=>whnf)
     refine⟨k+1,E[k],x::xs,⟨⟨om,om⟩,h4⟩,om,?_⟩;exact lq [(0,_)] []
   .have hne:¬(s=s/\E[k]=s):=λh=>hse h.2.symm
    rw[ed,zO hse] at h4;cases o with
    | nil=>
     repeat' ((conv=>whnf);first|exact kQ|(refine bk ?_ ?_<;>intro _<;>try exact exo)|refine stq ?_|(split<;>rename_i heq<;>first|(obtain rfl:=Option.some.inj ((kV hne).symm.trans heq))|exact absurd ((kV hne).symm.trans heq) si))
     all_goals(conv=>whnf)
     refine⟨k+1,E[k],[⟨s,E[k]⟩],⟨⟨om,si⟩,h4⟩,om,?_⟩;exact lq [(0,_)] []
    | cons x xs=>
     have hlen:(x::xs).length<=1001:=by omega
     repeat' ((conv=>whnf);first|exact kQ|(refine bk ?_ ?_<;>intro _<;>try exact exo)|refine stq ?_|(split<;>rename_i heq<;>first|(obtain rfl:=Option.some.inj ((kV hne).symm.trans heq))|exact absurd ((kV hne).symm.trans heq) si))
     all_goals(conv=>whnf)
     refine⟨k+1,E[k],(x::xs)++[⟨s,E[k]⟩],⟨⟨om,by rw[kG];simp only[List.length_singleton];omega⟩,by rw[h4,List.append_assoc];rfl⟩,om,?_⟩;exact lq [(0,_)] []
  .rw[List.drop_of_length_le om,lS,List.append_nil] at h4;rw[<-hR,h4];cases o with
   | nil=>
    repeat' ((conv=>whnf);first|exact kQ|(refine bk ?_ ?_<;>intro _<;>try exact exo)|refine stq ?_)
    all_goals(conv=>whnf)
    exact⟨.tup (.cons .nil (.cons (.same rfl) .nil))⟩
   | cons x xs=>
    repeat' ((conv=>whnf);first|exact kQ|(refine bk ?_ ?_<;>intro _<;>try exact exo)|refine stq ?_)
    all_goals(conv=>whnf)
    exact⟨.tup (.cons (zq (b:=x::xs) rfl rfl rfl rfl) (.cons (.same rfl) .nil))⟩
end
end Go.Proofs.YtpgcjpcenaefpaaGreatDoor
