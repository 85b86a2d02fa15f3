/-
  Contracts of functions over data: the best division (the program): a closure that calls itself over a table.
-/
import Derived.Test.YtlimkdlhldlolaaGreatDoorWV
import Derived.Test.YtlimkdlhldlolaaGreatDoorWF
set_option linter.unusedSectionVars false
namespace Go.Proofs.YtlimkdlhldlolaaGreatDoor
open Go Go.Am Classical
set_option maxHeartbeats 16000000
set_option maxRecDepth 100000
section
theorem xWJ.rdX {p:Prop}(h:p:=by first|exact Rd.same hnb|fail):p:=h
theorem xWJ.rbX {p:Prop}(h:p:=by first|exact rbL rfl rfl rfl rfl|exact Rb.cells (Rds.same (hnk _)) rfl|exact Rb.cells (Rds.eqs (by first|(rw[List.set_set];done)|fail) (hnk _)) rfl|exact Rb.cells (Rds.eqs (by first|(rw[<-hlow,set_tg];done)|fail) (hnk _)) rfl|fail):p:=h
open xWJ
abbrev kC (x:Nat×Int):List D:=[i64 (x.1:Int),i64 x.2]
abbrev fnL:D:=.fn (.func 14) [] [.ptr 0 0,.ptr 1 0,.ptr 2 0,.ptr 3 0]
noncomputable abbrev bsL (d:Db) (text:List Int) (m:Int) (O:List Int) (P:List Rng) (T:Tab):List (Nat×Box):=[(0,.cells [aC text] true),(1,.cells (T.flatMap kC) true),(2,.cells [.iptr (lZ d text m O P)] true),(3,.cells [fnL] true)]
theorem rbL [GT] {h:aA}{fz:Nat->Bool}{σ:Nat->Option Nat}{a0 a1 a2 a3 b0 b1 b2 b3:Nat}(h0:σ b0=some a0) (h1:σ b1=some a1) (h2:σ b2=some a2) (h3:σ b3=some a3):Rb h fz σ (.cells [.fn (.func 14) [] [.ptr a0 0,.ptr a1 0,.ptr a2 0,.ptr a3 0]] true) (.cells [.fn (.func 14) [] [.ptr b0 0,.ptr b1 0,.ptr b2 0,.ptr b3 0]] true):=
 .cells (.cons (.fn .nil (.cons (.ptr h0) (.cons (.ptr h1) (.cons (.ptr h2) (.cons (.ptr h3) .nil))))) .nil) rfl
theorem dJ (x:Nat×Int):(kC x).length=2:=rfl
theorem D4 {T:Tab}{k:Nat}(h:k<T.length):T[k]=tg T k:=by unfold tg;rw[aH h]
theorem xn {T:Tab}{k:Nat}(h:k<T.length):kC T[k]=[i64 ((tg T k).1:Int),i64 (tg T k).2]:=by rw[D4 h]
theorem set_tg {T:Tab}{k:Nat}:T.set k (tg T k)=T:=by
 refine List.ext_getElem si λi h1 h2=>?_
 rw[List.getElem_set];split
 .rename_i e;subst e;exact(D4 h2).symm
 .rfl
theorem IA {d:Db}{text:List Int}{m:Int}{L:aZ}{O:List Int}{P:List Rng}(H:sB d text m L O P):∀ {f lo:Nat}{T:Tab},lo<=text.length->text.length-lo<=f->(lo=0\/L.can lo=true)->L.TOk lo T->@AC1 gtR Tryz.prog 14 [i64 (lo:Int),.ptr 0 0,.ptr 1 0,.ptr 2 0,.ptr 3 0] ⟨4,bsL d text m O P T⟩ (i64 (L.B lo).2) ⟨4,bsL d text m O P (L.lst f lo T)⟩:=by
 letI:=gtR;have hok:=H.ok;have hn:=H.n;have hx:=H.len;have hmm:=H.m;have hll:=iy text.length P;have hlg:∀ a (h:a<(dw text.length P).length),(dw text.length P)[a]=(L.last a:Int):=λa h=>by rw[H.last];exact lM h
 have hcl:=nZ text.length O P;have hcg:∀ k (h:k<(jx text.length O P).length),(jx text.length O P)[k]=L.can k:=λk h=>by rw[H.can];exact rt h
 have hcost:=λa b (h0:a=0\/L.can a=true) (h1:L.can b=true) (h2:a<b) (h3:b<=text.length)=>GA H h0 h1 h2 h3
 have hnb:aK (.iptr (lZ d text m O P))=true:=by simp[aK,aF,aX,ah,bn,ak,aM,aw]
 have hnk:∀ T:Tab,aF (T.flatMap kC)=true:=λT=>aE (λ_=>rfl) _
 have hfl:∀ T:Tab,(T.flatMap kC).length=T.length*2:=λT=>aa (c:=kC) (sz:=2) (λ_=>rfl) _
 unfold lZ at hcost hnb;unfold bsL lZ;generalize dw text.length P=ll at *;generalize jx text.length O P=cl at *;intro f
 induction f with
 | zero=>
  intro lo T h1 h2 h3 h4;obtain rfl:lo=text.length:=by omega
  have hB:L.B text.length=(0,0):=by rw[<-hn];exact aZ.B_end
  rw[hB];refine AC1.of_vl aB T0 Tryz.func14 rfl rfl ?_;repeat' ((conv=>whnf);first|refine bX.weak (nb:=4) (x:=Code.ret) aB T0 (s0:=⟨tmp 143 [(6,i64 0)],⟨4,[(0,.cells [aC text] true),(1,.cells (T.flatMap kC) true),(2,.cells [.iptr (dbC d++[aC text,i64 m,ap cl,aC ll])] true),(3,.cells [fnL] true)]⟩⟩) ?_ ?_|refine bX.lab ?_|refine bX.scope ?_|exact kQ|(refine bk ?_ ?_<;>intro _<;>try exact exo)|refine stq ?_|exact⟨Or.inr rfl,rfl,rfl⟩|fail)
  .exact lq0
 | succ f ih=>
  intro lo T h1 h2 h3 h4;have hpost:=aZ.lst_ok hok om (f:=f+1) (T:=T) (by omega:lo<=L.n) om h4;by_cases hlo:lo=text.length
  .subst hlo;have hB:L.B text.length=(0,0):=by rw[<-hn];exact aZ.B_end
   have hlst:L.lst (f+1) text.length T=T:=by simp only[aZ.lst];rw[if_neg om]
   rw[hB,hlst];refine AC1.of_vl aB T0 Tryz.func14 rfl rfl ?_;repeat' ((conv=>whnf);first|refine bX.weak (nb:=4) (x:=Code.ret) aB T0 (s0:=⟨tmp 143 [(6,i64 0)],⟨4,[(0,.cells [aC text] true),(1,.cells (T.flatMap kC) true),(2,.cells [.iptr (dbC d++[aC text,i64 m,ap cl,aC ll])] true),(3,.cells [fnL] true)]⟩⟩) ?_ ?_|refine bX.lab ?_|refine bX.scope ?_|exact kQ|(refine bk ?_ ?_<;>intro _<;>try exact exo)|refine stq ?_|exact⟨Or.inr rfl,rfl,rfl⟩|fail)
   .exact lq0
  have hl:lo<L.n:=om;have hla:=hok.last hl;have hTl:=h4.len;have hloT:lo<T.length:=om;have hk0:=xn (T:=T) (k:=lo) hloT;have hat:=hpost.at' hl;by_cases h0:0<(tg T lo).1
  .have hlst:L.lst (f+1) lo T=T:=by simp only[aZ.lst];rw[if_pos hl,if_pos h0]
   rw[hlst] at hat ⊢;rw[<-hat];generalize tg T lo=b at *;refine AC1.of_vl aB T0 Tryz.func14 rfl rfl ?_;repeat' ((conv=>whnf);first|refine bX.weak (nb:=4) (x:=Code.ret) aB T0 (s0:=⟨tmp 143 [(6,i64 b.2)],⟨4,[(0,.cells [aC text] true),(1,.cells (T.flatMap kC) true),(2,.cells [.iptr (dbC d++[aC text,i64 m,ap cl,aC ll])] true),(3,.cells [fnL] true)]⟩⟩) ?_ ?_|refine bX.lab ?_|refine bX.scope ?_|exact kQ|(refine bk ?_ ?_<;>intro _<;>try exact exo)|refine stq ?_|refine bT.at lo rfl om ?_|refine Get.flat1 dJ lo 0 (d:=i64 (b.1:Int)) (by show 0+lo*2+0=lo*2+0;omega) om (by rw[hk0];rfl) ?_|refine Get.flat1 dJ lo 1 (d:=i64 b.2) (by show 0+lo*2+1=lo*2+1;omega) om (by rw[hk0];rfl) ?_|exact⟨Or.inr rfl,rfl,rfl⟩|fail)
   .exact lq0
  have hz:tg T lo=(0,0):=by
   rcases h4.inv lo (kP _) with e|e
   .exact e
   .exact absurd (by rw[e.2];exact aZ.B_ne hok hl) (by omega:¬(tg T lo).1≠0)
  rw[hz] at hk0;have hq:=hcost lo (L.last lo) h3 hla.2.2 hla.1 om;have hlol:lo<ll.length:=om;have hlg1:=hlg lo hlol;by_cases hw:L.w lo (L.last lo)<=m
  .have hlst:L.lst (f+1) lo T=(L.lst f (L.last lo) T).set lo (L.B lo):=by
    simp only[aZ.lst];rw[if_pos hl,if_neg h0,if_pos om]
   have hfit:=aZ.B_fits hok hl om;rw[hlst,hfit];have hih:=ih (lo:=L.last lo) (T:=T) om om (.inr hla.2.2) (h4.up om);have p:=aZ.lst_ok hok om (f:=f) (T:=T) hla.2.1 om (h4.up om);have hTl1:=p.ok.len;have hlow:=p.low lo hla.1;rw[hz] at hlow;rw[decide_eq_false om] at hq;clear hlst hat hpost p;generalize L.lst f (L.last lo) T=T1 at *;generalize(L.B (L.last lo)).2=c at *;generalize L.last lo=la at *;have hlo1:lo<T1.length:=om;have hk1:=xn (T:=T1) (k:=lo) hlo1;rw[hlow] at hk1;refine AC1.of_vl aB T0 Tryz.func14 rfl rfl ?_
   repeat' ((conv=>whnf);first|refine Idx.atE (d:=i64 (la:Int)) lo om om (by rw[hlg1]) ?_|refine bX.weak (nb:=4) (x:=Code.ret) aB T0 (s0:=⟨tmp 143 [(6,i64 c)],⟨4,[(0,.cells [aC text] true),(1,.cells ((T1.set lo (la,c)).flatMap kC) true),(2,.cells [.iptr (dbC d++[aC text,i64 m,ap cl,aC ll])] true),(3,.cells [fnL] true)]⟩⟩) ?_ ?_|refine bX.lab ?_|refine bX.scope ?_|exact kQ|(refine bk ?_ ?_<;>intro _<;>try exact exo)|refine stq ?_|refine ac.by (id:=6) aB T0 [0,0,0,4,12,28,0,124,252,511,1023,2047,2047,4095,16383] (by kernel_rfl) ?_|refine ac.byW (id:=8) aB T0 [0,0,0,4,12,28,0,124,252,0,0,1024,3072,7168,0,31744,64512,130560,262141,524285,1048573,2097151,4194303,8388607] (by kernel_rfl) ?_|refine cp hq ?_|refine Cll.emb hih [(0,0),(1,1),(2,2),(3,3)] [] (i64 c) [(0,.cells [aC text] true),(1,.cells (T1.flatMap kC) true),(2,.cells [.iptr (dbC d++[aC text,i64 m,ap cl,aC ll])] true),(3,.cells [fnL] true)] [] rfl cO bxA rdA bxA reA ?_|refine bT.at lo rfl om ?_|refine Get.flat1 dJ (l:=T) lo 0 (d:=i64 0) (by show 0+lo*2+0=lo*2+0;omega) om (by rw[hk0];rfl) ?_|refine Chk.mk ⟨_,rfl⟩ ?_|refine Put.flat1 dJ (l:=T1) lo 0 (la,0) (by show 0+lo*2+0=lo*2+0;omega) om om (by rw[hk1];rfl) ?_|refine Put.flat1 dJ (l:=T1.set lo (la,0)) lo 1 (la,c) (by show 0+lo*2+1=lo*2+1;omega) (by rw[List.length_set];omega) om (by rw[List.getElem_set_self];rfl) ?_|refine Get.flat1 dJ (l:=(T1.set lo (la,0)).set lo (la,c)) lo 1 (d:=i64 c) (by show 0+lo*2+1=lo*2+1;omega) (by rw[List.length_set,List.length_set];omega) (by rw[List.getElem_set_self];rfl) ?_|exact⟨Or.inr rfl,rfl,rfl⟩|fail)
   .exact lq0
  .have hlst:L.lst (f+1) lo T=L.lstL (L.lst f) lo (dX L.can lo (L.last lo)) T:=by
    simp only[aZ.lst];rw[if_pos hl,if_neg h0,if_neg om];unfold aZ.pos;rw[if_pos hl]
   rw[hlst] at hat ⊢;clear hlst hpost;rw[<-hat];rw[decide_eq_true om] at hq;generalize hTf:L.lstL (L.lst f) lo (dX L.can lo (L.last lo)) T=Tf at *;refine AC1.of_vl aB T0 Tryz.func14 rfl rfl ?_;repeat' ((conv=>whnf);first|refine Idx.atE (d:=i64 (L.last lo:Int)) lo om om (by rw[hlg1]) ?_|refine bX.lab ?_|refine bX.scope ?_|exact kQ|(refine bk ?_ ?_<;>intro _<;>try exact exo)|refine stq ?_|refine ac.by (id:=6) aB T0 [0,0,0,4,12,28,0,124,252,511,1023,2047,2047,4095,16383] (by kernel_rfl) ?_|refine cp hq ?_|refine bT.at lo rfl om ?_|refine Get.flat1 dJ lo 0 (d:=i64 0) (by show 0+lo*2+0=lo*2+0;omega) om (by rw[hk0];rfl) ?_|fail)
   refine aG.by2 aB T0 (λ(k:Nat) (T1:Tab)=>⟨tmp 143 [(0,i64 (lo:Int)),(1,.ptr 0 0),(2,.ptr 1 0),(3,.ptr 2 0),(4,.ptr 3 0),(7,.ptr 1 (0+lo*2)),(10,i64 ((k:Int)+1))],⟨4,[(0,.cells [aC text] true),(1,.cells (T1.flatMap kC) true),(2,.cells [.iptr (dbC d++[aC text,i64 m,ap cl,aC ll])] true),(3,.cells [fnL] true)]⟩⟩)
    (λk T1=>(lo<=k/\k<=L.last lo/\L.TOk (lo+1) T1/\(tg T1 lo=(0,0)\/(tg T1 lo).1≠0)/\0<=(tg T1 lo).2/\(tg T1 lo).2<=100000000000)/\Tf=L.lstL (L.lst f) lo (dX L.can k (L.last lo)) T1) (λk _=>L.last lo-k) lo T ⟨⟨om,om,h4.up om,.inl hz,by rw[hz];omega,by rw[hz];omega⟩,hTf.symm⟩ ?_ ?_
   .exact lq0
   intro k T1 ⟨⟨h5,h6,h7,h8,h9,h10⟩,h11⟩;have hTl1:=h7.len;have hk1:=xn (T:=T1) (k:=lo) om;by_cases hk:k<L.last lo
   .cases hc:L.can (k+1) with
    | false=>
     rw[uw (can:=L.can) hk (by rw[hc];simp)] at h11;have hcc:=hcg (k+1) om;rw[hc] at hcc;repeat' ((conv=>whnf);first|refine Idx.atE (d:=boo false) (k+1) om om (by rw[hcc]) ?_|refine Idx.at (f:=i64) (l:=ll) lo om om ?_|exact kQ|(refine bk ?_ ?_<;>intro _<;>try exact exo)|refine stq ?_|fail)
     (conv=>whnf)
     refine⟨k+1,T1,⟨⟨om,om,h7,h8,h9,h10⟩,h11⟩,om,?_⟩;exact lq0
    | true=>
     rw[qb (can:=L.can) hk hc] at h11;simp only[aZ.lstL] at h11;have hcc:=hcg (k+1) om;rw[hc] at hcc;have hq1:=hcost lo (k+1) h3 hc om om;by_cases hb:L.m<L.w lo (k+1)/\0<(tg T1 lo).1/\(tg T1 lo).2<L.cst lo (k+1)
     .rw[if_pos hb] at h11;subst h11;rw[decide_eq_true om] at hq1;generalize tg Tf lo=b at *;generalize L.cst lo (k+1)=cs at *;repeat' ((conv=>whnf);first|refine Idx.atE (d:=boo true) (k+1) om om (by rw[hcc]) ?_|refine Idx.at (f:=i64) (l:=ll) lo om om ?_|refine bX.weak (nb:=4) (x:=Code.ret) aB T0 (s0:=⟨tmp 143 [(6,i64 b.2)],⟨4,[(0,.cells [aC text] true),(1,.cells (Tf.flatMap kC) true),(2,.cells [.iptr (dbC d++[aC text,i64 m,ap cl,aC ll])] true),(3,.cells [fnL] true)]⟩⟩) ?_ ?_|exact kQ|(refine bk ?_ ?_<;>intro _<;>try exact exo)|refine stq ?_|refine cp hq1 ?_|refine Get.flat1 dJ lo 0 (d:=i64 (b.1:Int)) (by show 0+lo*2+0=lo*2+0;omega) om (by rw[hk1];rfl) ?_|refine Get.flat1 dJ lo 1 (d:=i64 b.2) (by show 0+lo*2+1=lo*2+1;omega) om (by rw[hk1];rfl) ?_|exact⟨Or.inr rfl,rfl,rfl⟩|fail)
      .exact lq0
     .rw[if_neg hb] at h11;have hih:=ih (lo:=k+1) (T:=T1) om om (.inr hc) (h7.up om);have p:=aZ.lst_ok hok om (f:=f) (T:=T1) (by omega:k+1<=L.n) om (h7.up om);have hB:=aZ.B_range hok (f:=L.n) (lo:=k+1) om om;have hcr:=aZ.cst_range hok (lo:=lo) (hi:=k+1) om;have hTl2:=p.ok.len;have hlow:=p.low lo om;have hst:=aZ.TOk.step hok om hl (by omega:lo<k+1) h7 p;have hccd:L.cc lo (k+1)=L.cst lo (k+1)+(L.B (k+1)).2:=rfl;have hbs:a6 (L.cc lo) (tg T1 lo) (k+1)=if(tg T1 lo).1=0\/L.cst lo (k+1)+(L.B (k+1)).2<=(tg T1 lo).2 then(k+1,L.cst lo (k+1)+(L.B (k+1)).2) else tg T1 lo:=rfl
      rw[hbs] at h11 hst;clear hbs hccd hk0 p;generalize tg T1 lo=b at *;generalize L.cst lo (k+1)=cs at *;generalize(L.B (k+1)).2=cB at *;generalize L.lst f (k+1) T1=T2 at *;have hlt2:lo<T2.length:=om;have hk2:=xn (T:=T2) (k:=lo) hlt2;rw[hlow] at hk2;by_cases hmw:m<L.w lo (k+1)<;>by_cases hup:b.1=0\/cs+cB<=b.2
      all_goals
       first
        | rw[decide_eq_true hmw] at hq1
        | rw[decide_eq_false hmw] at hq1
       first
        | rw[if_pos hup] at h11 hst
        | rw[if_neg hup] at h11 hst
       repeat' ((conv=>whnf);first|refine Idx.atE (d:=boo true) (k+1) om om (by rw[hcc]) ?_|refine Idx.at (f:=i64) (l:=ll) lo om om ?_|exact kQ|(refine bk ?_ ?_<;>intro _<;>try exact exo)|refine stq ?_|refine cp hq1 ?_|refine Get.flat1 dJ (l:=T1) lo 0 (d:=i64 (b.1:Int)) (by show 0+lo*2+0=lo*2+0;omega) om (by rw[hk1];rfl) ?_|refine Get.flat1 dJ (l:=T1) lo 1 (d:=i64 b.2) (by show 0+lo*2+1=lo*2+1;omega) om (by rw[hk1];rfl) ?_|refine Get.flat1 dJ (l:=T2) lo 0 (d:=i64 (b.1:Int)) (by show 0+lo*2+0=lo*2+0;omega) om (by rw[hk2];rfl) ?_|refine Get.flat1 dJ (l:=T2) lo 1 (d:=i64 b.2) (by show 0+lo*2+1=lo*2+1;omega) om (by rw[hk2];rfl) ?_|refine Put.flat1 dJ (l:=T2) lo 0 (k+1,b.2) (by show 0+lo*2+0=lo*2+0;omega) om om (by rw[hk2];rfl) ?_|refine Put.flat1 dJ (l:=T2.set lo (k+1,b.2)) lo 1 (k+1,cs+cB) (by show 0+lo*2+1=lo*2+1;omega) (by rw[List.length_set];omega) om (by rw[List.getElem_set_self];rfl) ?_|refine Cll.emb hih [(0,0),(1,1),(2,2),(3,3)] [] (i64 cB) [(0,.cells [aC text] true),(1,.cells (T2.flatMap kC) true),(2,.cells [.iptr (dbC d++[aC text,i64 m,ap cl,aC ll])] true),(3,.cells [fnL] true)] [] rfl cO bxA rdA bxA reA ?_|fail)
       all_goals(conv=>whnf)
       all_goals first
        | (refine⟨k+1,T2.set lo (k+1,cs+cB),⟨⟨om,om,hst,by rw[de hlt2,if_pos rfl];exact .inr si,by rw[de hlt2,if_pos rfl];simp only;omega,by rw[de hlt2,if_pos rfl];simp only;omega⟩,h11⟩,om,?_⟩
           exact lq0)
        | (refine⟨k+1,T2.set lo b,⟨⟨om,om,hst,by rw[de hlt2,if_pos rfl];exact h8,by rw[de hlt2,if_pos rfl];exact h9,by rw[de hlt2,if_pos rfl];exact h10⟩,h11⟩,om,?_⟩
           exact lq0)
   .obtain rfl:k=L.last lo:=by omega
    rw[m6] at h11;simp only[aZ.lstL] at h11;subst h11;generalize tg Tf lo=b at *;repeat' ((conv=>whnf);first|refine Idx.at (f:=i64) (l:=ll) lo om om ?_|refine bX.weak (nb:=4) (x:=Code.ret) aB T0 (s0:=⟨tmp 143 [(6,i64 b.2)],⟨4,[(0,.cells [aC text] true),(1,.cells (Tf.flatMap kC) true),(2,.cells [.iptr (dbC d++[aC text,i64 m,ap cl,aC ll])] true),(3,.cells [fnL] true)]⟩⟩) ?_ ?_|exact kQ|(refine bk ?_ ?_<;>intro _<;>try exact exo)|refine stq ?_|refine Get.flat1 dJ lo 1 (d:=i64 b.2) (by show 0+lo*2+1=lo*2+1;omega) om (by rw[hk1];rfl) ?_|exact⟨Or.inr rfl,rfl,rfl⟩|fail)
    .exact lq0
end
section
theorem xWN.rdX {p:Prop}(h:p:=by first|exact Rd.same hnb|exact Rd.sl' rfl sim sim|fail):p:=h
theorem xWN.rbX {p:Prop}(h:p:=by first|exact Rb.cells (Rds.same (hnk _)) rfl|exact Rb.cells (Rds.eqs (aQ (c:=bm) (sz:=2) (by intro _;rfl) (x::xs) (⟨(lo:Int),(nx:Int)⟩:Rng)) (aE (by intro _;rfl) _)) rfl|exact rbL rfl rfl rfl rfl|exact Rb.cells (Rds.eqs (show _=sI.flatMap kC from by kernel_rfl) (hnk sI)) rfl|fail):p:=h
open xWN
def sI:Tab:=List.replicate 400 (0,0)
theorem Al {L:aZ}{lo:Nat}:L.TOk lo sI:=by
 have h:∀ k,tg sI k=(0,0):=λk=>by
  unfold tg sI;rw[List.getD,List.getElem?_replicate];split<;>rfl
 refine⟨List.length_replicate,λk _=>.inl (h k),λk _ h1=>?_⟩;rw[h k] at h1;exact absurd rfl h1
theorem Best_c {d:Db}{text:List Int}{m:Int}{L:aZ}{O:List Int}{P:List Rng}(H:sB d text m L O P) (hm:1<=m/\m<=1000):@Pu gtR Tryz.prog 6 [dbD d,aC text,i64 m] (.tup [ax (rgL 0 (L.bin 0)),i64 (L.B 0).2,i64 0]):=by
 letI:=gtR;have hp:=qa H hm;have hok:=H.ok;have hn:=H.n;have hx:=H.len;have hc:=IA H (f:=text.length) (lo:=0) (T:=sI) om om (.inl rfl) Al;have hpost:=aZ.lst_ok hok om (f:=text.length) (lo:=0) (T:=sI) om om Al;have hnb:aK (.iptr (lZ d text m O P))=true:=by simp[aK,aF,aX,ah,bn,ak,aM,aw]
 have hnk:∀ T:Tab,aF (T.flatMap kC)=true:=λT=>aE (λ_=>rfl) _
 have hTl:=hpost.ok.len;have hat:=hpost.at'
 have hstep:∀ lo,lo<L.n->tg (L.lst text.length 0 sI) lo=L.B lo->lo<(L.B lo).1/\(L.B lo).1<=L.n/\((L.B lo).1<L.n->tg (L.lst text.length 0 sI) (L.B lo).1=L.B (L.B lo).1):=λlo hl he=>by
  have h1:=aZ.pos_lt hok _ _ (aZ.B_spec hok hl).1;refine⟨h1.1,h1.2,λh2=>?_⟩;have h3:=hpost.ok.cl lo hl (by rw[he];exact aZ.B_ne hok hl) (by rw[he];exact h2);rw[he] at h3;rcases hpost.ok.inv (L.B lo).1 (Nat.zero_le _) with e|e
  .rw[e] at h3;exact absurd rfl h3
  .exact e.2
 clear hpost;have hB0:=hat;generalize L.lst text.length 0 sI=T at *;have hbq:∀ lo,lo<L.n->L.bin lo=(L.B lo).1::L.bin (L.B lo).1:=λlo h=>aZ.bin_eq hok h
 have hbe:L.bin L.n=[]:=aZ.bin_end;refine pv Tryz.func6 ?_;generalize hb:(L.B 0).2=b at *;unfold bsL at hc;generalize lZ d text m O P=lc at *;repeat' ((conv=>whnf);first|exact kQ|(refine bk ?_ ?_<;>intro _<;>try exact exo)|refine stq ?_|refine cp hp ?_|refine Cll.emb hc [(0,1),(1,20),(2,12),(3,21)] [] (i64 b) [(1,.cells [aC text] true),(20,.cells (T.flatMap kC) true),(12,.cells [.iptr lc] true),(21,.cells [.fn (.func 14) [] [.ptr 1 0,.ptr 20 0,.ptr 12 0,.ptr 21 0]] true)] [(0,.cells (dbC d) true)] rfl cO bxA rdA bxA reA ?_|fail)
 refine aG.by2 aB T0 (λ(lo:Nat) (o:List Rng)=>⟨tmp 51 [(4,.ptr 0 0),(11,.ptr 1 0),(13,i64 b),(14,aP 2 2 o),(15,i64 (lo:Int))],⟨3,bS 2 bm o++[(0,.cells [aC text] true),(1,.cells (T.flatMap kC) true)]⟩⟩)
  (λlo o=>(lo<=text.length/\o.length<=lo/\(lo<L.n->tg T lo=L.B lo))/\rgL 0 (L.bin 0)=o++rgL lo (L.bin lo)) (λlo _=>text.length-lo) 0 [] ⟨⟨om,si,hat⟩,rfl⟩ ?_ ?_
 .exact lq [(0,1),(1,20)] []
 intro lo o ⟨⟨h3,h4,h5⟩,h6⟩;by_cases hk:lo<text.length
 .have he:=h5 om;obtain⟨q1,q2,q3⟩:=hstep lo om he;have hk1:=xn (T:=T) (k:=lo) om;rw[he] at hk1;rw[hbq lo om] at h6;generalize L.B lo=v at *;obtain⟨nx,c⟩:=v;simp only at q1 q2 q3 hk1 h6;have h7:rgL 0 (L.bin 0)=(o++[⟨(lo:Int),(nx:Int)⟩])++rgL nx (L.bin nx):=by rw[h6];simp[rgL]
  cases o with
  | nil=>
   repeat' ((conv=>whnf);first|exact kQ|(refine bk ?_ ?_<;>intro _<;>try exact exo)|refine stq ?_|refine bT.at lo rfl om ?_|refine Get.flat1 dJ lo 0 (d:=i64 (nx:Int)) (by show 0+lo*2+0=lo*2+0;omega) om (by rw[hk1];rfl) ?_|fail)
   (conv=>whnf)
   refine⟨nx,_,⟨⟨om,by simp;omega,q3⟩,h7⟩,om,?_⟩;exact lq [(0,_),(1,_),(2,_)] []
  | cons x xs=>
   have hlen:(x::xs).length<=1001:=by omega
   repeat' ((conv=>whnf);first|exact kQ|(refine bk ?_ ?_<;>intro _<;>try exact exo)|refine stq ?_|refine bT.at lo rfl om ?_|refine Get.flat1 dJ lo 0 (d:=i64 (nx:Int)) (by show 0+lo*2+0=lo*2+0;omega) om (by rw[hk1];rfl) ?_|fail)
   (conv=>whnf)
   refine⟨nx,_,⟨⟨om,by simp at h4 ⊢;omega,q3⟩,h7⟩,om,?_⟩;exact lq [(0,_),(1,_),(2,_)] []
 .obtain rfl:lo=text.length:=by omega
  rw[<-hn,hbe] at h6;simp only[rgL,List.append_nil] at h6;rw[h6];cases o with
  | nil=>
   repeat' ((conv=>whnf);first|exact kQ|(refine bk ?_ ?_<;>intro _<;>try exact exo)|refine stq ?_|fail)
   (conv=>whnf)
   exact⟨.tup (.cons .nil (.cons (.same rfl) (.cons (.same rfl) .nil)))⟩
  | cons x xs=>
   repeat' ((conv=>whnf);first|exact kQ|(refine bk ?_ ?_<;>intro _<;>try exact exo)|refine stq ?_|fail)
   (conv=>whnf)
   exact⟨.tup (.cons (BU (b:=x::xs) rfl rfl rfl rfl) (.cons (.same rfl) (.cons (.same rfl) .nil)))⟩
end
end Go.Proofs.YtlimkdlhldlolaaGreatDoor
