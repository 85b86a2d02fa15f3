/-
  Contracts of functions over data: the actions at all positions of a text, by a database.
-/
import Derived.Test.YtlimkdlhldlolaaGreatDoorHI
import Derived.Test.YtlimkdlhldlolaaGreatDoorHM
set_option linter.unusedSectionVars false
namespace Go.Proofs.YtlimkdlhldlolaaGreatDoor
set_option maxRecDepth 100000
section
open Go Go.Am Classical
noncomputable instance gtI9:GT:=gtR
theorem fC {p:Prp}{text:List Int}:(cn p t4 text).length=text.length+1:=by
 rw[cn,if_pos tv4.1,cm];simp[aW]
theorem xk {d:Db}{text:List Int}(ho:d.ok) (hs:SmD d) (hv:DbV d) (hx:text.length<=1000):@Pu gtR Tryz.prog 37 [dbD d,aC text] (.tup [aC (cn d.lin t4 text),i64 0]):=by
 letI:=gtR;obtain⟨e,he,hi⟩:=lU ho hs;obtain rfl:=hi.2 hv;have hsm:=hs.2.1 6 om;have hp:Pu Tryz.prog 52 [dbD d,i64 6] (bY d.lin):=pw (λk hk=>hs.2.1 k hk) 6 om;have hA:=qR (p:=d.lin) (t:=t4) (text:=text) (ho.prop 6) tv4.2 (by have:=hsm.1;simp only[prop] at this;omega) (by have:=hsm.2;simp only[prop] at this;omega) hx;have hT:=D9;refine pv Tryz.func37 ?_;repeat' ((conv=>whnf);first|exact kQ|(refine bk ?_ ?_<;>intro _<;>try exact exo)|refine stq ?_|refine cp he ?_|refine cp hp ?_|refine cp hT ?_|refine cp hA ?_|fail)
 (conv=>whnf)
 exact⟨Rd.eqd rfl (by simp[aK,aF,aM])⟩
theorem IF {d:Db}{text:List Int}(ho:d.ok) (hs:SmD d) (hv:¬DbV d):@Pu gtR Tryz.prog 37 [dbD d,aC text] (.tup [aJ,i64 11]):=by
 letI:=gtR;obtain⟨e,he,hi⟩:=lU ho hs;have h0:e≠0:=λh=>hv (hi.1 h)
 refine pv Tryz.func37 ?_;repeat' ((conv=>whnf);first|exact kQ|(refine bk ?_ ?_<;>intro _<;>try exact exo)|refine stq ?_|refine cp he ?_|fail)
 (conv=>whnf)
 exact⟨Rd.eqd rfl rfl⟩
end
section
open Go Go.Am Classical
end
section
open Go Go.Am Classical
abbrev spS:Str:=[83,112,97,99,101]
abbrev zsS:Str:=[90,101,114,111,83,112,97,99,101]
end
section
open Go Go.Am Classical
theorem xJ4.rdX {p:Prop}(h:p:=by first|exact mR rfl rfl rfl rfl|exact Rd.eqd rfl hnp|fail):p:=h
open xJ4
abbrev manS:Str:=[77,97,110,100,97,116,111,114,121]
abbrev crS:Str:=[67,82]
abbrev lfS:Str:=[76,70]
abbrev nlS:Str:=[78,101,119,108,105,110,101]
def hid (s:Str):Prop:=s=spS\/s=manS\/s=crS\/s=lfS\/s=nlS\/s=zsS
theorem Fl (s:Str):@Pu gtR Tryz.prog 56 [.str s] (boo (decide (hid s))):=by
 letI:=gtR;refine pv Tryz.func56 ?_;repeat' ((conv=>whnf);first|exact kQ|(refine bk ?_ ?_<;>intro _<;>try exact exo)|refine stq ?_)
 all_goals(conv=>whnf)
 all_goals first
  | exact aD.yes (.inl asm)
  | exact aD.yes (.inr (.inl asm))
  | exact aD.yes (.inr (.inr (.inl asm)))
  | exact aD.yes (.inr (.inr (.inr (.inl asm))))
  | exact aD.yes (.inr (.inr (.inr (.inr (.inl asm)))))
  | exact aD.yes (.inr (.inr (.inr (.inr (.inr asm)))))
  | exact aD.no (λhc=>by rcases hc with h|h|h|h|h|h<;>contradiction)
noncomputable def nm4 (n:Int):Str:=cl4.getD n.toNat []
theorem E9 {n:Nat}(h:n<cl4.length):nm4 (n:Int)=cl4[n]:=by
 simp only[nm4,Int.toNat_natCast,aH h]
noncomputable def cA (nv:List Int) (a:Nat):Nat->Nat
 | 0=>0
 | k+1=>if a<=k/\hid (nm4 (nv.getD k 0)) then cA nv a k else k+1
theorem pS (nv:List Int) (a:Nat):∀ k,cA nv a k<=k
 | 0=>kP _
 | k+1=>by
  simp only[cA];split
  .have:=pS nv a k;omega
  .omega
theorem uZ (nv:List Int) (a:Nat):∀ k,a<=k->a<=cA nv a k
 | 0=>λh=>h
 | k+1=>λh=>by
  simp only[cA];split
  .rename_i hc;exact uZ nv a k hc.1
  .exact h
theorem sq {nv:List Int}{a k:Nat}(h:a<=k) (hq:hid (nm4 (nv.getD k 0))):cA nv a (k+1)=cA nv a k:=by
 simp only[cA];rw[if_pos ⟨h,hq⟩]
theorem sr {nv:List Int}{a k:Nat}(hq:¬hid (nm4 (nv.getD k 0))):cA nv a (k+1)=k+1:=by
 simp only[cA];rw[if_neg λh=>hq h.2]
theorem wR {nv:List Int}{a k:Nat}(h:k<=a):cA nv a k=k:=by
 cases k with
 | zero=>rfl
 | succ k=>simp only[cA];rw[if_neg λh=>by have:=h.1;omega]
noncomputable abbrev nvL (d:Db) (text:List Int):List Int:=aW d.lin cl4 text
theorem fy (d:Db) (text:List Int):(nvL d text).length=text.length:=by simp[aW]
theorem Hw {d:Db}{text:List Int}{k:Nat}(h:k<text.length):(nvL d text).getD k 0=gC cl4 (fu d.lin text[k]):=by
 rw[aH (by rw[fy];exact h)];simp[aW]
theorem E4 {d:Db}{text:List Int}{k:Nat}(h:k<text.length):∃ n:Nat,n<cl4.length/\(nvL d text).getD k 0=(n:Int):=by
 letI:=gtR;have hq:=ip (p:=d.lin) (text:=text) (t:=t4) tv4.1 k (by rw[<-fy d text] at h;exact h);have hcl:t4.classes.length=28:=rfl;have hcl':cl4.length=28:=rfl;rw[aH (by rw[fy];exact h)];refine⟨((nvL d text)[k]'(by rw[fy];exact h)).toNat,?_,?_⟩
 .have h2:=hq.2;have h1:=hq.1;simp only[hcl] at h2;show((aW d.lin t4.classes text)[k]'(by rw[<-fy d text] at h;exact h)).toNat<_;omega
 .have h1:=hq.1;show((aW d.lin t4.classes text)[k]'(by rw[<-fy d text] at h;exact h))=((((aW d.lin t4.classes text)[k]'(by rw[<-fy d text] at h;exact h)).toNat:Nat):Int);omega
theorem mR [GT] {h:aA}{fz:Nat->Bool}{σ:Nat->Option Nat}{id n cap:Nat}{b:List Int}{cs:List D}{ex bx:Bool}(hf:fz id=true) (hg:h.get id=some (.cells cs bx)) (ec:cs=b.map i64) (e:n=b.length):Rd h fz σ (.sl id 0 n cap 1 ex) (aC b):=by
 subst e;subst ec;refine .frz hf hg si (.eqs ?_ (aU (λ_=>rfl) _));rw[List.drop_zero,kE si]
theorem Ix {d:Db}{text:List Int}{k:Nat}(ho:d.ok) (h:k<text.length):@Pu gtR Tryz.prog 72 [dbD d,i64 text[k]] (boo (decide (hid (nm4 ((nvL d text).getD k 0))))):=by
 letI:=gtR;have hC:=Eb;have hN:Pu Tryz.prog 67 [bY d.lin,strs cl4,aC [text[k]]] (aC (aW d.lin cl4 [text[k]])):=B0 (ho.prop 6) (by decide) si;have hn1:aW d.lin cl4 [text[k]]=[(nvL d text).getD k 0]:=by rw[Hw h];rfl
 obtain⟨n,hn,e⟩:=E4 (d:=d) h;rw[hn1,e] at hN;rw[e,E9 hn];refine pv Tryz.func72 ?_;have hnp:=io d.lin;repeat' ((conv=>whnf);first|refine Idx.at (f:=D.str) (l:=cl4) n om om ?_|exact kQ|(refine bk ?_ ?_<;>intro _<;>try exact exo)|refine stq ?_|refine cp hC ?_|refine Cll.emb (hN ⟨0,[]⟩) [] [9] (aC [(n:Int)]) [] [(0,.cells (dbC d) true)] rfl cO bxA rdA bxA reA ?_)
 all_goals(conv=>whnf)
 all_goals first
  | exact aD.yes (.inl asm)
  | exact aD.yes (.inr (.inl asm))
  | exact aD.yes (.inr (.inr (.inl asm)))
  | exact aD.yes (.inr (.inr (.inr (.inl asm))))
  | exact aD.yes (.inr (.inr (.inr (.inr (.inl asm)))))
  | exact aD.yes (.inr (.inr (.inr (.inr (.inr asm)))))
  | exact aD.no (λhc=>by rcases hc with h|h|h|h|h|h<;>contradiction)
end
section
open Go Go.Am Classical
abbrev dE (a b:Int):D:=.agg [i64 a,i64 b]
theorem rvis_c {d:Db}{text:List Int}{a b:Nat}(ho:d.ok) (hs:SmD d) (hv:DbV d) (hx:text.length<=40) (hab:a<=b) (hb:b<=text.length) :
  @Pu gtR Tryz.prog 49 [dbD d,aC text,dE a b] (.tup [dE a (cA (nvL d text) a b),i64 0]):=by
 letI:=gtR;obtain⟨e,he,hi⟩:=eB ho hs;obtain rfl:=hi.2 hv;refine pv Tryz.func49 ?_;repeat' ((conv=>whnf);first|exact kQ|(refine bk ?_ ?_<;>intro _<;>try exact exo)|refine stq ?_|refine cp he ?_|fail)
 refine aG.by aB T0 (λk:Nat=>⟨tmp 50 [(1,aC text),(3,.ptr 0 0),(5,.ptr 1 0),(6,.ptr 2 0)],⟨3,[(2,.cells [i64 0,i64 0] true),(1,.cells [i64 a,i64 (k:Int)] true),(0,.cells (dbC d) true)]⟩⟩)
  (λk=>a<=k/\k<=b/\cA (nvL d text) a k=cA (nvL d text) a b) (λk=>k) b ⟨hab,kP _,rfl⟩ ?_ ?_
 .exact lq [(0,_),(1,_),(2,_)] []
 intro k ⟨h3,h4,h5⟩;by_cases hk:a<k
 .obtain⟨j,rfl⟩:∃ j,k=j+1:=⟨k-1,om⟩;have hB:=Ix (d:=d) ho (show j<text.length by omega);by_cases hq:hid (nm4 ((nvL d text).getD j 0))
  .rw[decide_eq_true hq] at hB;repeat' ((conv=>whnf);first|refine Idx.at (f:=i64) (l:=text) j om om ?_|exact kQ|(refine bk ?_ ?_<;>intro _<;>try exact exo)|refine stq ?_|refine cp hB ?_|refine ac.by aB T0 [0,1,0,4,15,31,63,63,63,319,831,1983,4031,8191,16383] (by kernel_rfl) ?_)
   (conv=>whnf)
   refine⟨j,⟨om,om,by rw[<-h5,sq om hq]⟩,om,?_⟩;exact lq [(0,_),(1,_),(2,_)] []
  .rw[decide_eq_false hq] at hB;repeat' ((conv=>whnf);first|refine Idx.at (f:=i64) (l:=text) j om om ?_|exact kQ|(refine bk ?_ ?_<;>intro _<;>try exact exo)|refine stq ?_|refine cp hB ?_|refine ac.by aB T0 [0,1,0,4,15,31,63,63,63,319,831,1983,4031,8191,16383] (by kernel_rfl) ?_)
   (conv=>whnf)
   rw[<-h5,sr hq];exact⟨Rd.eqd rfl rfl⟩
 .repeat' ((conv=>whnf);first|exact kQ|(refine bk ?_ ?_<;>intro _<;>try exact exo)|refine stq ?_|refine ac.by aB T0 [0,1,0,4,15,31,63,63,63,319,831,1983,4031,8191,16383] (by kernel_rfl) ?_)
  (conv=>whnf)
  rw[<-h5,wR om];exact⟨Rd.eqd rfl rfl⟩
theorem HA {d:Db}{text:List Int}{a b:Nat}(ho:d.ok) (hs:SmD d) (hv:DbV d) (hx:text.length<=40) (hab:a<=b) (hb:b<=text.length) :
  @Pu gtR Tryz.prog 41 [dbD d,aC text,dE a b] (.tup [dE a (cA (nvL d text) a b),i64 0]):=by
 letI:=gtR;obtain⟨e,he,hi⟩:=lU ho hs;obtain rfl:=hi.2 hv;have hsm:=hs.2.1 6 om;have hp:Pu Tryz.prog 52 [dbD d,i64 6] (bY d.lin):=pw (λk hk=>hs.2.1 k hk) 6 om;have hT:=D9
 have ec:(D.imm ((b:Int)-(a:Int)).toNat (((text.map i64).drop ((a:Int).toNat*1)).take (((b:Int)-(a:Int)).toNat*1)):D)=aC ((text.drop a).take (b-a)):=by
  rw[show((b:Int)-(a:Int)).toNat=b-a from om,Nat.mul_one,Nat.mul_one,Int.toNat_natCast,<-List.map_drop,<-List.map_take];show _=D.imm _ _;rw[show((text.drop a).take (b-a)).length=b-a from by simp;omega]
 have en:aW d.lin cl4 ((text.drop a).take (b-a))=((nvL d text).drop a).take (b-a):=by simp[aW,List.map_take,List.map_drop]
 have hA:Pu Tryz.prog 55 [bY d.lin,gQ t4,aC ((text.drop a).take (b-a))] (aC (((nvL d text).drop a).take (b-a))):=by
  have h:=uQ (p:=d.lin) (t:=t4) (text:=(text.drop a).take (b-a)) (ho.prop 6) tv4.2 (by simp;omega) (by have:=hsm.2;simp only[prop] at this;omega) (by have:=hsm.1;simp only[prop] at this;omega);rw[if_pos tv4.1] at h;rw[<-en];exact h
 rw[<-ec] at hA;have hnl:=fy d text
 have hq:∀ i (h:i<(((nvL d text).drop a).take (b-a)).length),(((nvL d text).drop a).take (b-a))[i]=(nvL d text).getD (a+i) 0:=λi h=>by
  have h':i<b-a:=by simp at h;omega
  rw[aH om];simp
 have hl2:(((nvL d text).drop a).take (b-a)).length=b-a:=by simp;omega
 have hcl:t4.classes=cl4:=rfl;generalize((nvL d text).drop a).take (b-a)=nvp at *;generalize t4=t at *;refine pv Tryz.func41 ?_;repeat' ((conv=>whnf);first|refine Chk.mk ⟨om,om,om,(by show(List.map i64 text).length=text.length*1;simp)⟩ ?_|exact kQ|(refine bk ?_ ?_<;>intro _<;>try exact exo)|refine stq ?_|refine cp he ?_|refine cp hp ?_|refine cp hT ?_|refine cp hA ?_|refine ac.by aB T0 [0,1,0,0,0,16,0,64,248,511,1023] (by kernel_rfl) ?_|fail)
 refine aG.by aB T0 (λk:Nat=>⟨tmp 67 [(5,.ptr 0 0),(6,.ptr 1 0),(8,.ptr 2 0),(9,aC nvp),(10,i64 ((k:Int)-a-1))],⟨3,[(0,.cells [i64 a,i64 (k:Int)] true),(1,.cells [i64 0,i64 0] true),(2,.cells [strs t.classes,aC t.actions,bU t.left.next,bU t.left.marks,bU t.right.next,bU t.right.marks] true)]⟩⟩)
  (λk=>a<=k/\k<=b/\cA (nvL d text) a k=cA (nvL d text) a b) (λk=>k) b ⟨hab,kP _,rfl⟩ ?_ ?_
 .exact lq [(0,_),(1,_),(2,_)] []
 intro k ⟨h3,h4,h5⟩;by_cases hk:a<k
 .obtain⟨j,rfl⟩:∃ j,k=j+1:=⟨k-1,om⟩;obtain⟨n,hn,en⟩:=E4 (d:=d) (show j<text.length by omega);have hn':n<t.classes.length:=by rw[hcl];exact hn
  have ej:nvp[j-a]'(by omega)=(n:Int):=by rw[hq,show a+(j-a)=j by omega,en]
  have e4:nm4 ((nvL d text).getD j 0)=t.classes[n]:=by
   rw[en,E9 hn];simp only[hcl]
  have hB:=Fl (t.classes[n]);by_cases hq2:hid (nm4 ((nvL d text).getD j 0))
  .rw[<-e4,decide_eq_true hq2,e4] at hB;repeat' ((conv=>whnf);first|refine Idx.at (f:=D.str) (l:=t.classes) n om om ?_|refine Idx.at (f:=i64) (l:=nvp) (j-a) om om ?_|exact kQ|(refine bk ?_ ?_<;>intro _<;>try exact exo)|refine stq ?_|refine cp hB ?_|refine ac.by aB T0 [0,1,3,7,15,7,7,103,231,511,1023,2047,4095] (by kernel_rfl) ?_)
   (conv=>whnf)
   refine⟨j,⟨om,om,by rw[<-h5,sq om hq2]⟩,om,?_⟩;exact lq [(0,_),(1,_),(2,_)] []
  .rw[<-e4,decide_eq_false hq2,e4] at hB;repeat' ((conv=>whnf);first|refine Idx.at (f:=D.str) (l:=t.classes) n om om ?_|refine Idx.at (f:=i64) (l:=nvp) (j-a) om om ?_|exact kQ|(refine bk ?_ ?_<;>intro _<;>try exact exo)|refine stq ?_|refine cp hB ?_|refine ac.by aB T0 [0,1,3,7,15,7,7,103,231,511,1023,2047,4095] (by kernel_rfl) ?_)
   (conv=>whnf)
   rw[<-h5,sr hq2];exact⟨Rd.eqd rfl rfl⟩
 .repeat' ((conv=>whnf);first|exact kQ|(refine bk ?_ ?_<;>intro _<;>try exact exo)|refine stq ?_|refine ac.by aB T0 [0,1,3,7,15,7,7,103,231,511,1023,2047,4095] (by kernel_rfl) ?_)
  (conv=>whnf)
  rw[<-h5,wR om];exact⟨Rd.eqd rfl rfl⟩
section
variable [GT]
theorem Hx {a b:Int}{ox oy:Operand}:cS Tryz.prog .neq 54 ox oy (.agg [i64 a,i64 b]) (.agg [i64 a,i64 b])=some (.v (.bool false)):=by
 rw[pX];simp
theorem kZ {a b c e:Int}{ox oy:Operand}(h:¬(a=c/\b=e)):cS Tryz.prog .neq 54 ox oy (.agg [i64 a,i64 b]) (.agg [i64 c,i64 e])=some (.v (.bool true)):=by
 rw[pX];simp only[kA,D.v.injEq,Value.bool.injEq,Bool.not_eq_true',Bool.and_eq_false_imp,beq_iff_eq,beq_eq_false_iff_ne];exact λh1 h2=>h ⟨h1,h2⟩
end
end
section
open Go Go.Am Classical
theorem xJ6.rdX {p:Prop}(h:p:=by first|exact Rd.sl' rfl sim sim|fail):p:=h
theorem xJ6.rbX {p:Prop}(h:p:=by first|exact Rb.cells (Rds.eqs (aQ (by intro _;rfl) (x::xs) _) (aE (by intro _;rfl) _)) rfl|fail):p:=h
open xJ6
def e8 (p:Int->Bool) (A:List Int) (k:Nat):List Int:=
 ((List.range k).filter λi=>decide (0<i/\i+1<A.length)&&p (A.getD i 0)).map λi:Nat=>(i:Int)
theorem Cw {p:Int->Bool}{A:List Int}:e8 p A 0=[]:=rfl
theorem rF {p:Int->Bool}{A:List Int}{k:Nat}(h0:0<k) (h1:k+1<A.length) (h:p (A.getD k 0)=true):e8 p A (k+1)=e8 p A k++[(k:Int)]:=by
 unfold e8;have e:(decide (0<k/\k+1<A.length)&&p (A.getD k 0))=true:=by rw[h,decide_eq_true ⟨h0,h1⟩];rfl
 rw[List.range_succ,List.filter_append,List.map_append];simp only[List.filter_cons,e,if_true,List.filter_nil,List.map_cons,List.map_nil]
theorem rH {p:Int->Bool}{A:List Int}{k:Nat}(h:p (A.getD k 0)=false):e8 p A (k+1)=e8 p A k:=by
 unfold e8;rw[List.range_succ,List.filter_append,List.map_append];simp only[h,Bool.and_false,List.filter_cons,List.filter_nil,Bool.false_eq_true,if_false,List.map_nil,List.append_nil]
theorem rG {p:Int->Bool}{A:List Int}{k:Nat}(h:¬(0<k/\k+1<A.length)):e8 p A (k+1)=e8 p A k:=by
 unfold e8;rw[List.range_succ,List.filter_append,List.map_append];simp only[h,decide_false,Bool.false_and,List.filter_cons,List.filter_nil,Bool.false_eq_true,if_false,List.map_nil,List.append_nil]
theorem iz {p:Int->Bool}{A:List Int}{k:Nat}:(e8 p A k).length<=k:=by
 unfold e8;rw[List.length_map];exact Nat.le_trans (List.length_filter_le _ _) si
theorem rI {p:Int->Bool}{A:List Int}{k:Nat}{x:Int}:x∈e8 p A k↔∃ i:Nat,x=(i:Int)/\i<k/\0<i/\i+1<A.length/\p (A.getD i 0)=true:=by
 unfold e8;simp only[List.mem_map,List.mem_filter,List.mem_range,kC,decide_eq_true_eq];constructor
 .rintro⟨i,⟨h1,⟨h2,h3⟩,h4⟩,rfl⟩;exact⟨i,rfl,h1,h2,h3,h4⟩
 .rintro⟨i,rfl,h1,h2,h3,h4⟩;exact⟨i,⟨h1,⟨h2,h3⟩,h4⟩,rfl⟩
theorem Fg {p:Int->Bool}{A:List Int}{k:Nat}:(e8 p A k).Pairwise (· < ·):=by
 unfold e8;rw[List.pairwise_map];exact(List.Pairwise.filter _ List.pairwise_lt_range).imp λh=>by omega
theorem xw {p:Int->Bool}{A:List Int}{n k:Nat}(hA:A.length=n+1) (_:1<=k) (h2:n<=k) (h3:k<=n\/k=1):e8 p A k=e8 p A A.length:=by
 rw[hA];by_cases h:k=n+1
 .rw[h]
 .obtain rfl:k=n:=by omega
  rw[rG om]
def lY:Int->List Int->List Rng
 | _,[]=>[]
 | s,e::l=>if s=e then lY e l else⟨s,e⟩::lY e l
theorem uy {s e:Int}{l:List Int}(h:s=e):lY s (e::l)=lY e l:=by rw[lY,if_pos h]
theorem zd {s e:Int}{l:List Int}(h:¬s=e):lY s (e::l)=⟨s,e⟩::lY e l:=by rw[lY,if_neg h]
theorem Az [GT]:∀ {l:List Int}{s:Int},(s::l).Pairwise (·<=·)->lY s l=btw s l
 | [],_,_=>rfl
 | e::l,s,h=>by
  have h1:=(List.pairwise_cons.1 h).1 e si;have ih:=Az (List.pairwise_cons.1 h).2;by_cases he:s=e
  .subst he;rw[uy rfl,dW om,ih]
  .rw[zd he,cJ om,ih]
theorem BO {p:Int->Bool}{A:List Int}{n:Nat}(hA:A.length=n+1):(0::(e8 p A A.length++[(n:Int)])).Pairwise (·<=·):=by
 rw[List.pairwise_cons,List.pairwise_append];refine⟨λa ha=>?_,Fg.imp λh=>om,si,λa ha b hb=>?_⟩
 .rcases List.mem_append.1 ha with h|h
  .obtain⟨i,rfl,h1,h2,h3,h4⟩:=rI.1 h;omega
  .simp at h;omega
 .simp at hb;obtain⟨i,rfl,h1,h2,h3,h4⟩:=rI.1 ha;omega
def pK (n:Int):Bool:=decide (n=2\/n=3)
def sO (n:Int):Bool:=decide (n=3)
section
variable [GT]
theorem opp1_c (n:Int):Pu Tryz.prog 39 [i64 n] (boo (pK n)):=by
 unfold pK;refine pv Tryz.func39 ?_;repeat' ((conv=>whnf);first|exact kQ|(refine bk ?_ ?_<;>intro _<;>try exact exo)|refine stq ?_)
 all_goals(conv=>whnf)
 all_goals first
  | exact aD.yes om
  | exact aD.no om
theorem par1_c (n:Int):Pu Tryz.prog 40 [i64 n] (boo (sO n)):=by
 unfold sO;refine pv Tryz.func40 ?_;repeat' ((conv=>whnf);first|exact kQ|(refine bk ?_ ?_<;>intro _<;>try exact exo)|refine stq ?_)
 all_goals(conv=>whnf)
 all_goals first
  | exact aD.yes om
  | exact aD.no om
theorem tn {l:List Int}{g:FuncId}{p:Int->Bool}(hf:∀ n,Pu Tryz.prog g [i64 n] (boo (p n))) (hl:l.length<=1001):Pk Tryz.prog 38 [aC l,.fn (.func g) [] []] 1 (λn=>aP n 1 (e8 p l l.length)) (λn=>bS n (λx=>[i64 x]) (e8 p l l.length)):=by
 refine Pk.of_v aB T0 Tryz.func38 rfl rfl (by simp[aK,aF,aM]) ?_;repeat' ((conv=>whnf);first|exact kQ|(refine bk ?_ ?_<;>intro _<;>try exact exo)|refine stq ?_)
 refine aG.by2 aB T0 (λ(k:Nat) (o:List Int)=>⟨tmp 35 [(0,aC l),(1,.fn (.func g) [] []),(5,aP 0 1 o),(8,aC l),(9,i64 (l.length:Int)),(10,i64 (k:Int))],⟨1,bS 0 (λx=>[i64 x]) o⟩⟩)
  (λk o=>k<=l.length/\o=e8 p l k) (λk _=>l.length-k) 0 [] ⟨om,rfl⟩ ?_ ?_
 .exact lq0
 intro k o ⟨h3,h4⟩;have hol:o.length<=k:=by rw[h4];exact iz
 by_cases hk:k<l.length
 .have e0:l.getD k 0=l[k]:=aH hk;by_cases hin:0<k/\k+1<l.length
  .have hc:=hf l[k];by_cases hp:p l[k]=true
   .rw[hp] at hc;have hs:=rF (p:=p) (A:=l) hin.1 hin.2 (by rw[e0];exact hp);rw[<-h4] at hs;cases o with
    | nil=>
     repeat' ((conv=>whnf);first|exact kQ|(refine bk ?_ ?_<;>intro _<;>try exact exo)|refine stq ?_|refine cp hc ?_|fail)
     (conv=>whnf)
     refine⟨k+1,[]++[(k:Int)],⟨om,hs.symm⟩,om,?_⟩;exact lq [(0,_)] []
    | cons x xs=>
     have hlen:(x::xs).length<=1001:=by omega
     repeat' ((conv=>whnf);first|exact kQ|(refine bk ?_ ?_<;>intro _<;>try exact exo)|refine stq ?_|refine cp hc ?_|fail)
     (conv=>whnf)
     refine⟨k+1,_,⟨om,hs.symm⟩,om,?_⟩;exact lq [(0,_)] []
   .have hp':p l[k]=false:=by simpa using hp
    rw[hp'] at hc;have hs:=rH (p:=p) (A:=l) (k:=k) (by rw[e0];exact hp');cases o with
    | nil=>
     repeat' ((conv=>whnf);first|exact kQ|(refine bk ?_ ?_<;>intro _<;>try exact exo)|refine stq ?_|refine cp hc ?_|fail)
     (conv=>whnf)
     refine⟨k+1,[],⟨om,by rw[hs];exact h4⟩,om,?_⟩;exact lq0
    | cons x xs=>
     repeat' ((conv=>whnf);first|exact kQ|(refine bk ?_ ?_<;>intro _<;>try exact exo)|refine stq ?_|refine cp hc ?_|fail)
     (conv=>whnf)
     refine⟨k+1,x::xs,⟨om,by rw[hs];exact h4⟩,om,?_⟩;exact lq [(0,_)] []
  .have hs:=rG (p:=p) (A:=l) hin;cases o with
   | nil=>
    repeat' ((conv=>whnf);first|exact kQ|(refine bk ?_ ?_<;>intro _<;>try exact exo)|refine stq ?_)
    all_goals(conv=>whnf)
    all_goals
     refine⟨k+1,[],⟨om,by rw[hs];exact h4⟩,om,?_⟩;exact lq0
   | cons x xs=>
    repeat' ((conv=>whnf);first|exact kQ|(refine bk ?_ ?_<;>intro _<;>try exact exo)|refine stq ?_)
    all_goals(conv=>whnf)
    all_goals
     refine⟨k+1,x::xs,⟨om,by rw[hs];exact h4⟩,om,?_⟩;exact lq [(0,_)] []
 obtain rfl:k=l.length:=by omega
 rw[<-h4];cases o with
 | nil=>
  repeat' ((conv=>whnf);first|exact kQ|(refine bk ?_ ?_<;>intro _<;>try exact exo)|refine stq ?_)
  (conv=>whnf)
  exact⟨[0],rfl,⟨si,λn=>.same rfl,λn=>.nil⟩⟩
 | cons x xs=>
  repeat' ((conv=>whnf);first|exact kQ|(refine bk ?_ ?_<;>intro _<;>try exact exo)|refine stq ?_)
  (conv=>whnf)
  exact⟨[0],rfl,⟨si,λn=>Rd.own si (by simp[sgn]) rfl rfl,λn=>.cons (id:=0) (by simp[sgn]) rfl rfl (Rb.cells (Rds.same (aE (λ_=>rfl) _)) rfl) .nil⟩⟩
end
end
section
open Go Go.Am Classical
theorem xJ7.rdX {p:Prop}(h:p:=by first|exact mR rfl rfl (by first|(rw[hE];rfl;done)|fail) om|exact Rd.sl' rfl sim sim|exact mR rfl rfl (by first|(rw[hE];exact Bs (x::xs) _;done)|fail) (by first|(simp[hE];done)|fail)|fail):p:=h
theorem xJ7.rbX {p:Prop}(h:p:=by first|exact Rb.cells (Rds.eqs (aQ (c:=bm) (sz:=2) (by intro _;rfl) (x::xs) (⟨s,E[k]⟩:Rng)) (aE (by intro _;rfl) _)) rfl|fail):p:=h
open xJ7
theorem AA [GT] {h:aA}{fz:Nat->Bool}{σ:Nat->Option Nat}{id n cap:Nat}{b:List Rng}{cs:List D}{ex bx:Bool}(hf:fz id=true) (hg:h.get id=some (.cells cs bx)) (ec:cs=b.flatMap bm) (e:n=b.length):Rd h fz σ (.sl id 0 n cap 2 ex) (ax b):=by
 subst e;subst ec;refine .frz hf hg (by rw[aa (sz:=2) (λ_=>rfl)];omega) (.eqs ?_ (aE (λ_=>rfl) _));rw[List.drop_zero,kE (by rw[aa (sz:=2) (λ_=>rfl)];exact kP _)]
theorem Bs (l:List Int) (x:Int):((l.flatMap λx=>[i64 x]).drop 0).take (l.length*1)++[i64 x]=(l++[x]).map i64:=by
 rw[aQ (c:=λx=>[i64 x]) (sz:=1) (λ_=>rfl) l x,aN]
noncomputable abbrev nD (d:Db) (text:List Int):List Int:=e8 pK (cn d.lin t4 text) (cn d.lin t4 text).length
noncomputable abbrev CY (d:Db) (text:List Int):List Int:=e8 sO (cn d.lin t4 text) (cn d.lin t4 text).length
noncomputable abbrev dY (d:Db) (text:List Int):List Rng:=btw 0 (CY d text++[(text.length:Int)])
theorem A6 {d:Db}{text:List Int}(ho:d.ok) (hs:SmD d) (hv:DbV d) (hx:text.length<=1000):@Pu gtR Tryz.prog 30 [dbD d,aC text] (.tup [aC (nD d text),i64 0]):=by
 letI:=gtR;have hA:=xk (text:=text) ho hs hv hx;have hl:=fC (p:=d.lin) (text:=text);unfold nD;generalize cn d.lin t4 text=A at *;refine pv Tryz.func30 ?_;have hI:=tn (l:=A) opp1_c om;cases he:e8 pK A A.length with
 | nil=>
  rw[he] at hI;repeat' ((conv=>whnf);first|exact kQ|(refine bk ?_ ?_<;>intro _<;>try exact exo)|refine stq ?_|refine cp hA ?_|refine Cll.pk hI ?_)
  (conv=>whnf)
  exact⟨.tup (.cons .nil (.cons (.same rfl) .nil))⟩
 | cons x xs=>
  rw[he] at hI;repeat' ((conv=>whnf);first|exact kQ|(refine bk ?_ ?_<;>intro _<;>try exact exo)|refine stq ?_|refine cp hA ?_|refine Cll.pk hI ?_)
  (conv=>whnf)
  exact⟨.tup (.cons (mR (b:=x::xs) rfl rfl (aN _) rfl) (.cons (.same rfl) .nil))⟩
theorem opp_no {d:Db}{text:List Int}(ho:d.ok) (hs:SmD d) (hv:¬DbV d):@Pu gtR Tryz.prog 30 [dbD d,aC text] (.tup [aJ,i64 11]):=by
 letI:=gtR;have hA:=IF (text:=text) ho hs hv;refine pv Tryz.func30 ?_;repeat' ((conv=>whnf);first|exact kQ|(refine bk ?_ ?_<;>intro _<;>try exact exo)|refine stq ?_|refine cp hA ?_|fail)
 (conv=>whnf)
 exact⟨Rd.eqd rfl rfl⟩
theorem kb [GT] {a b c:Int}{ox oy:Operand}(h:b=c):cS Tryz.prog .neq 54 ox oy (.agg [i64 a,i64 b]) (.agg [i64 a,i64 c])=some (.v (.bool false)):=by
 subst h;exact Hx
set_option maxHeartbeats 8000000 in
theorem Hq {d:Db}{text:List Int}(ho:d.ok) (hs:SmD d) (hv:DbV d) (hx:text.length<=999):@Pu gtR Tryz.prog 31 [dbD d,aC text] (.tup [ax (dY d text),i64 0]):=by
 letI:=gtR;have hA:=xk (text:=text) ho hs hv om;have hl:=fC (p:=d.lin) (text:=text);have hR:lY 0 (CY d text++[(text.length:Int)])=dY d text:=Az (BO hl);have hSl:(CY d text).length<=1000:=Nat.le_trans iz om;unfold CY at hR hSl;generalize dY d text=R at *;generalize cn d.lin t4 text=A at *;refine pv Tryz.func31 ?_;have hI:=tn (l:=A) par1_c om;cases he:e8 sO A A.length with
 | nil=>
  rw[he] at hR hI;obtain⟨E,hE⟩:∃ E,E=([]:List Int)++[(text.length:Int)]:=⟨_,rfl⟩;rw[<-hE] at hR;have hEl:E.length=1:=by rw[hE];rfl
  repeat' ((conv=>whnf);first|exact kQ|(refine bk ?_ ?_<;>intro _<;>try exact exo)|refine stq ?_|refine cp hA ?_|refine Cll.pk hI ?_|fail)
  refine aG.by3 aB T0 (λ(k:Nat) (s:Int) (o:List Rng)=>⟨tmp 52 [(9,aP 0 2 o),(10,i64 s),(30,aC E),(31,i64 (E.length:Int)),(32,i64 (k:Int))],⟨1,bS 0 bm o⟩⟩)
   (λk s o=>(k<=E.length/\o.length<=k)/\lY 0 E=o++lY s (E.drop k)) (λk _ _=>E.length-k) 0 0 [] ⟨⟨om,si⟩,rfl⟩ ?_ ?_
  .exact lq [] [18,19,20,21,22,23,24,25,26,27]
  intro k s o ⟨⟨h3,h5⟩,h4⟩;by_cases hk:k<E.length
  .have ed:E.drop k=E[k]::E.drop (k+1):=kK hk;by_cases hse:s=E[k]
   .rw[ed,uy hse] at h4;cases o with
    | nil=>
     repeat' ((conv=>whnf);first|exact kQ|(refine bk ?_ ?_<;>intro _<;>try exact exo)|refine stq ?_|(split<;>rename_i heq<;>first|(obtain rfl:=Option.some.inj ((kb hse.symm).symm.trans heq))|exact absurd ((kb hse.symm).symm.trans heq) si))
     (conv=>whnf)
     refine⟨k+1,E[k],[],⟨⟨om,si⟩,h4⟩,om,?_⟩;exact lq0
    | cons x xs=>
     repeat' ((conv=>whnf);first|exact kQ|(refine bk ?_ ?_<;>intro _<;>try exact exo)|refine stq ?_|(split<;>rename_i heq<;>first|(obtain rfl:=Option.some.inj ((kb hse.symm).symm.trans heq))|exact absurd ((kb hse.symm).symm.trans heq) si))
     (conv=>whnf)
     refine⟨k+1,E[k],x::xs,⟨⟨om,om⟩,h4⟩,om,?_⟩;exact lq [(0,_)] []
   .have hne:¬(s=s/\E[k]=s):=λh=>hse h.2.symm
    rw[ed,zd hse] at h4;cases o with
    | nil=>
     repeat' ((conv=>whnf);first|exact kQ|(refine bk ?_ ?_<;>intro _<;>try exact exo)|refine stq ?_|(split<;>rename_i heq<;>first|(obtain rfl:=Option.some.inj ((kZ hne).symm.trans heq))|exact absurd ((kZ hne).symm.trans heq) si))
     (conv=>whnf)
     refine⟨k+1,E[k],[⟨s,E[k]⟩],⟨⟨om,si⟩,h4⟩,om,?_⟩;exact lq [(0,_)] []
    | cons x xs=>
     have hlen:(x::xs).length<=1001:=by omega
     repeat' ((conv=>whnf);first|exact kQ|(refine bk ?_ ?_<;>intro _<;>try exact exo)|refine stq ?_|(split<;>rename_i heq<;>first|(obtain rfl:=Option.some.inj ((kZ hne).symm.trans heq))|exact absurd ((kZ hne).symm.trans heq) si))
     (conv=>whnf)
     refine⟨k+1,E[k],(x::xs)++[⟨s,E[k]⟩],⟨⟨om,by rw[kG];simp only[List.length_singleton];omega⟩,by rw[h4,List.append_assoc];rfl⟩,om,?_⟩;exact lq [(0,_)] []
  .rw[List.drop_of_length_le om,lY,List.append_nil] at h4;rw[<-hR,h4];cases o with
   | nil=>
    repeat' ((conv=>whnf);first|exact kQ|(refine bk ?_ ?_<;>intro _<;>try exact exo)|refine stq ?_)
    (conv=>whnf)
    exact⟨.tup (.cons .nil (.cons (.same rfl) .nil))⟩
   | cons x xs=>
    repeat' ((conv=>whnf);first|exact kQ|(refine bk ?_ ?_<;>intro _<;>try exact exo)|refine stq ?_)
    (conv=>whnf)
    exact⟨.tup (.cons (AA (b:=x::xs) rfl rfl rfl rfl) (.cons (.same rfl) .nil))⟩
 | cons x xs=>
  rw[he] at hR hSl hI;obtain⟨E,hE⟩:∃ E,E=(x::xs)++[(text.length:Int)]:=⟨_,rfl⟩;rw[<-hE] at hR;have hEl:E.length=(x::xs).length+1:=by rw[hE];simp
  have hxl:(x::xs).length=xs.length+1:=rfl;repeat' ((conv=>whnf);first|exact kQ|(refine bk ?_ ?_<;>intro _<;>try exact exo)|refine stq ?_|refine cp hA ?_|refine Cll.pk hI ?_|fail)
  refine aG.by3 aB T0 (λ(k:Nat) (s:Int) (o:List Rng)=>⟨tmp 52 [(9,aP 0 2 o),(10,i64 s),(30,aC E),(31,i64 (E.length:Int)),(32,i64 (k:Int))],⟨1,bS 0 bm o⟩⟩)
   (λk s o=>(k<=E.length/\o.length<=k)/\lY 0 E=o++lY s (E.drop k)) (λk _ _=>E.length-k) 0 0 [] ⟨⟨om,si⟩,rfl⟩ ?_ ?_
  .exact lq [] [18,19,20,21,22,23,24,25,26,27]
  intro k s o ⟨⟨h3,h5⟩,h4⟩;by_cases hk:k<E.length
  .have ed:E.drop k=E[k]::E.drop (k+1):=kK hk;by_cases hse:s=E[k]
   .rw[ed,uy hse] at h4;cases o with
    | nil=>
     repeat' ((conv=>whnf);first|exact kQ|(refine bk ?_ ?_<;>intro _<;>try exact exo)|refine stq ?_|(split<;>rename_i heq<;>first|(obtain rfl:=Option.some.inj ((kb hse.symm).symm.trans heq))|exact absurd ((kb hse.symm).symm.trans heq) si))
     (conv=>whnf)
     refine⟨k+1,E[k],[],⟨⟨om,si⟩,h4⟩,om,?_⟩;exact lq0
    | cons x xs=>
     repeat' ((conv=>whnf);first|exact kQ|(refine bk ?_ ?_<;>intro _<;>try exact exo)|refine stq ?_|(split<;>rename_i heq<;>first|(obtain rfl:=Option.some.inj ((kb hse.symm).symm.trans heq))|exact absurd ((kb hse.symm).symm.trans heq) si))
     (conv=>whnf)
     refine⟨k+1,E[k],x::xs,⟨⟨om,om⟩,h4⟩,om,?_⟩;exact lq [(0,_)] []
   .have hne:¬(s=s/\E[k]=s):=λh=>hse h.2.symm
    rw[ed,zd hse] at h4;cases o with
    | nil=>
     repeat' ((conv=>whnf);first|exact kQ|(refine bk ?_ ?_<;>intro _<;>try exact exo)|refine stq ?_|(split<;>rename_i heq<;>first|(obtain rfl:=Option.some.inj ((kZ hne).symm.trans heq))|exact absurd ((kZ hne).symm.trans heq) si))
     (conv=>whnf)
     refine⟨k+1,E[k],[⟨s,E[k]⟩],⟨⟨om,si⟩,h4⟩,om,?_⟩;exact lq [(0,_)] []
    | cons x xs=>
     have hlen:(x::xs).length<=1001:=by omega
     repeat' ((conv=>whnf);first|exact kQ|(refine bk ?_ ?_<;>intro _<;>try exact exo)|refine stq ?_|(split<;>rename_i heq<;>first|(obtain rfl:=Option.some.inj ((kZ hne).symm.trans heq))|exact absurd ((kZ hne).symm.trans heq) si))
     (conv=>whnf)
     refine⟨k+1,E[k],(x::xs)++[⟨s,E[k]⟩],⟨⟨om,by rw[kG];simp only[List.length_singleton];omega⟩,by rw[h4,List.append_assoc];rfl⟩,om,?_⟩;exact lq [(0,_)] []
  .rw[List.drop_of_length_le om,lY,List.append_nil] at h4;rw[<-hR,h4];cases o with
   | nil=>
    repeat' ((conv=>whnf);first|exact kQ|(refine bk ?_ ?_<;>intro _<;>try exact exo)|refine stq ?_)
    (conv=>whnf)
    exact⟨.tup (.cons .nil (.cons (.same rfl) .nil))⟩
   | cons x xs=>
    repeat' ((conv=>whnf);first|exact kQ|(refine bk ?_ ?_<;>intro _<;>try exact exo)|refine stq ?_)
    (conv=>whnf)
    exact⟨.tup (.cons (AA (b:=x::xs) rfl rfl rfl rfl) (.cons (.same rfl) .nil))⟩
end
end Go.Proofs.YtlimkdlhldlolaaGreatDoor
