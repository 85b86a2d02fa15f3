/-
  Walks through a scope whose labels nobody goes to.
-/
import Derived.Test.YtlimkdlhldlolaaGreatDoorWC
set_option linter.unusedSectionVars false
namespace Go.Am
open Go
def noG (Q:Exit->St->Prop):Exit->St->Prop:=λe s=>match e with
 | .goto _=>False
 | e=>Q e s
theorem bX.scope {P:Program}{nb:Nat}{c:Code}{Q:Exit->St->Prop}{s:St}(h:bX P nb c (noG Q) s):bX P nb (.scope c) Q s:=
 ⟨⟨λcb hb c a R hB hf hR=>nk (zD (Q:=λe a w=>R e a w/\∀ l,e≠.goto l) (h.run.run cb hb c a _ hB hf λe s1 c1 a1 hq f1 b1 d1=>⟨hR e s1 c1 a1 (by cases e<;>first|exact hq|exact hq.elim) f1 b1 d1,by rintro l rfl;exact hq⟩) (λl _ _ h=>h.2 l rfl)) λ_ _ _ h=>h.1⟩⟩
theorem bX.lab {P:Program}{nb l:Nat}{y:Code}{Q:Exit->St->Prop}{s:St}(h:bX P nb y Q s):bX P nb (.seq (.label l) y) Q s:=
 ⟨.seq ⟨λ_ _ c a _ hB hf hR=>wpIn_label (hR .normal s c a h.run hf hB rfl)⟩⟩
end Go.Am
namespace Go.Proofs.YtlimkdlhldlolaaGreatDoor
open Go Go.Am Classical
set_option maxRecDepth 100000
theorem xWG.rdX {p:Prop}(h:p:=by first|exact Rd.eqd rfl (by first|(simp[aK,aF,aX,ah,bn,ak,aM,aw];done)|fail)|fail):p:=h
open xWG
theorem Ad {d:Db}{text:List Int}{m:Int}{L:aZ}{O:List Int}{P:List Rng}(H:sB d text m L O P){a b:Nat}(ha:a=0\/L.can a=true) (hb:L.can b=true) (hab:a<b) (hbn:b<=text.length):@Pu gtR Tryz.prog 32 [.iptr (lZ d text m O P),i64 (a:Int),i64 (b:Int)] (i64 (L.w a b)):=by
 letI:=gtR;obtain⟨e,h1,h2,hV,hW⟩:=H.wid a b ha hb hab hbn
 have hW':Pu Tryz.prog 42 [dbD d,D.imm ((e:Int)-(a:Int)).toNat (((text.map i64).drop ((a:Int).toNat*1)).take (((e:Int)-(a:Int)).toNat*1))] (.tup [i64 (L.w a b),i64 0]):=by
  rw[uz om om om];exact hW
 refine pv Tryz.func32 ?_;repeat' ((conv=>whnf);first|exact kQ|(refine bk ?_ ?_<;>intro _<;>try exact exo)|refine stq ?_|refine ac.by aB T0 [0,1,3,7,0,16,48,112,0,0,768,2047,4095,8191,8191,0,49151,131071] (by kernel_rfl) ?_|refine ac.by aB T0 [0,1,3,7,0,16,48,112,0,256,0,1024,4080,8191,16383,32767,32767,65535,262143] (by kernel_rfl) ?_|refine cp hV ?_|refine cp hW' ?_|refine Chk.mk ⟨om,om,om,(by simp:(text.map i64).length=text.length*1)⟩ ?_)
 (conv=>whnf)
 exact aD.int rfl
theorem HI {o:Int}(h1:-1000<=o) (h2:o<=1000):IntKind.wrap .i64 (o*o)=o*o/\IntKind.wrap .i64 (o*o*1000)=o*o*1000:=by
 have:=aZ.sq_range h1 h2
 exact⟨gn (ko om om),gn (ko om om)⟩
theorem GA {d:Db}{text:List Int}{m:Int}{L:aZ}{O:List Int}{P:List Rng}(H:sB d text m L O P){a b:Nat}(ha:a=0\/L.can a=true) (hb:L.can b=true) (hab:a<b) (hbn:b<=text.length):@Pu gtR Tryz.prog 15 [.iptr (lZ d text m O P),i64 (a:Int),i64 (b:Int)] (.tup [i64 (L.cst a b),boo (decide (m<L.w a b))]):=by
 letI:=gtR;have hw:=Ad H ha hb hab hbn;have hr:=H.ok.w0 (a:=a) (b:=b) (by rw[H.n];exact hbn);have hm:=H.ok.m1;rw[H.m] at hm;have hl:=H.last a;have hll:=iy text.length P;have hlg:∀ k (h:k<(dw text.length P).length),(dw text.length P)[k]=(bw P k:Int):=λk h=>lM h
 have hx:=H.len;have hsq:=HI (o:=L.w a b-m) om om
 have hcst:L.cst a b=if 0<L.w a b-m then(L.w a b-m)*(L.w a b-m)*1000 else if b=bw P a then 0 else(L.w a b-m)*(L.w a b-m):=by
  unfold aZ.cst;rw[H.m,hl]
 rw[hcst];unfold lZ at hw ⊢;generalize L.w a b=w at *;generalize dw text.length P=ll at *;generalize hlp:bw P a=lp at *;have hla:ll[a]'(by omega)=(lp:Int):=by rw[hlg,hlp]
 refine pv Tryz.func15 ?_;repeat' ((conv=>whnf);first|refine Idx.at (f:=i64) (l:=ll) a om om ?_|exact kQ|(refine bk ?_ ?_<;>intro _<;>try exact exo)|refine stq ?_|refine ac.by aB T0 [0,0,0,7,0,16,48,112,255,511] (by kernel_rfl) ?_|refine cp hw ?_|fail)
 all_goals(conv=>whnf)
 all_goals first
  | exact⟨Rd.eqd (by rw[if_pos om,hsq.1,hsq.2,decide_eq_true om];rfl) rfl⟩
  | exact⟨Rd.eqd (by rw[if_neg om,if_pos om,decide_eq_false om];rfl) rfl⟩
  | exact⟨Rd.eqd (by rw[if_neg om,if_neg om,hsq.1,decide_eq_false om];rfl) rfl⟩
theorem long_c {d:Db}{text:List Int}{m:Int}{L:aZ}{O:List Int}{P:List Rng}(H:sB d text m L O P){a:Nat}(ha:a=0\/L.can a=true) (han:a<text.length):@Pu gtR Tryz.prog 29 [.iptr (lZ d text m O P),i64 (a:Int)] (i64 (L.nxt a)):=by
 letI:=gtR;have hok:=H.ok;have hn:=H.n;have hla:=hok.last (k:=a) om;have hll:=iy text.length P;have hlg:∀ k (h:k<(dw text.length P).length),(dw text.length P)[k]=(bw P k:Int):=λk h=>lM h
 have hlp:=H.last a;have hcl:=nZ text.length O P;have hcg:∀ k (h:k<(jx text.length O P).length),(jx text.length O P)[k]=L.can k:=λk h=>by rw[H.can];exact rt h
 have hx:=H.len;have hm:=H.m;have hwc:=λb (h1:L.can b=true) (h2:a<b) (h3:b<=text.length)=>Ad H ha h1 h2 h3
 have hpos:L.pos a=dX L.can a (L.last a):=by unfold aZ.pos;rw[if_pos om]
 have hnx:L.nxt a=lm (L.w a) m a a (dX L.can a (L.last a)):=by unfold aZ.nxt;rw[hpos,hm]
 rw[hnx];unfold lZ at hwc ⊢;generalize dw text.length P=ll at *;generalize jx text.length O P=cl at *;have hla2:ll[a]'(by omega)=(L.last a:Int):=by rw[hlg,hlp]
 refine pv Tryz.func29 ?_;repeat' ((conv=>whnf);first|refine bX.lab ?_|refine bX.scope ?_|exact kQ|(refine bk ?_ ?_<;>intro _<;>try exact exo)|refine stq ?_|fail)
 refine aG.by2 aB T0 (λ(k e:Nat)=>⟨tmp 48 [(0,.iptr (dbC d++[aC text,i64 m,ap cl,aC ll])),(1,i64 (a:Int)),(5,i64 (e:Int)),(6,i64 ((k:Int)+1))],⟨0,[]⟩⟩)
  (λk e=>(a<=k/\k<=L.last a/\a<=e/\e<=k)/\lm (L.w a) m a a (dX L.can a (L.last a))=lm (L.w a) m a e (dX L.can k (L.last a))) (λk _=>L.last a-k) a a ⟨⟨om,om,om,om⟩,rfl⟩ ?_ ?_
 .exact lq0
 intro k e ⟨⟨h3,h4,h5,h6⟩,h7⟩;by_cases hk:k<L.last a
 .cases hc:L.can (k+1) with
  | false=>
   have hp:=uw (can:=L.can) hk (by rw[hc];simp);rw[hp] at h7;have hcc:cl[k+1]'(by omega)=false:=by rw[hcg,hc]
   repeat' ((conv=>whnf);first|refine Idx.atE (d:=boo false) (k+1) om om (by rw[hcc]) ?_|refine Idx.at (f:=i64) (l:=ll) a om om ?_|exact kQ|(refine bk ?_ ?_<;>intro _<;>try exact exo)|refine stq ?_|fail)
   (conv=>whnf)
   refine⟨k+1,e,⟨⟨om,om,om,om⟩,h7⟩,om,?_⟩;exact lq0
  | true=>
   have hp:=qb (can:=L.can) hk hc;rw[hp] at h7;simp only[lm] at h7;have hcc:cl[k+1]'(by omega)=true:=by rw[hcg,hc]
   have hw:=hwc (k+1) hc om om;have hr:=hok.w0 (a:=a) (b:=k+1) om;generalize L.w a (k+1)=w at *;repeat' ((conv=>whnf);first|refine Idx.atE (d:=boo true) (k+1) om om (by rw[hcc]) ?_|refine Idx.at (f:=i64) (l:=ll) a om om ?_|exact kQ|(refine bk ?_ ?_<;>intro _<;>try exact exo)|refine stq ?_|refine ac.by aB T0 [0,0,0,7,0,16,48,112,255,511] (by kernel_rfl) ?_|refine cp hw ?_|fail)
   all_goals(conv=>whnf)
   all_goals first
    | exact aD.int (by rw[h7,if_pos om,if_pos om])
    | exact aD.int (by rw[h7,if_pos om,if_neg om];omega)
    | (rw[if_neg om] at h7
       refine⟨k+1,k+1,⟨⟨om,om,om,om⟩,h7⟩,om,?_⟩
       exact lq0)
 .obtain rfl:k=L.last a:=by omega
  rw[m6] at h7;simp only[lm] at h7;repeat' ((conv=>whnf);first|refine Idx.at (f:=i64) (l:=ll) a om om ?_|exact kQ|(refine bk ?_ ?_<;>intro _<;>try exact exo)|refine stq ?_|fail)
  (conv=>whnf)
  exact aD.int (by rw[h7])
end Go.Proofs.YtlimkdlhldlolaaGreatDoor
