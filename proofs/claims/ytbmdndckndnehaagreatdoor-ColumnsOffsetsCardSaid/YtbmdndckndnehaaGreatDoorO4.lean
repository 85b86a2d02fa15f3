/-
  Layer 35 over data: small inputs; the columns of an element; the statement ColumnsCodes.
-/
import Derived.Test.YtbmdndckndnehaaGreatDoorO0
import Derived.Test.YtbmdndckndnehaaGreatDoorL6
import Derived.Test.YtbmdndckndnehaaGreatDoorL3
set_option linter.unusedSectionVars false
namespace Go.Proofs.YtbmdndckndnehaaGreatDoor
section
open Go Go.Am Classical
set_option maxRecDepth 100000
theorem Jn {p:Prp}{n:Int}:@Pu gtR Tryz.prog 84 [bn p,i64 n] (boo (decide (p.names.length<=300∧(p.spans.length:Int)<=n))):=by
 letI:=gtR;refine pv Tryz.func84 ?_;repeat' ((conv=>whnf);first|exact kQ|(refine bk ?_ ?_<;>intro _<;>try(exfalso;omega))|refine stq ?_)
 all_goals(conv=>whnf)
 all_goals first
  | exact aC.yes ⟨by omega,by omega⟩
  | exact aC.no om
theorem tw {d:Db}(ho:d.ok):@Pu gtR Tryz.prog 49 [dbD d] (boo (decide (SmD d))):=by
 letI:=gtR;have h:=GE ho;have h1:=Jn (p:=d.wid) (n:=60);have h2:=Jn (p:=d.gra) (n:=60);have k1:SmD d->d.wid.names.length<=30∧d.wid.spans.length<=16:=λh=>h.2.1 1 om
 have k2:SmD d->d.gra.names.length<=30∧d.gra.spans.length<=16:=λh=>h.2.1 3 om
 refine pv Tryz.func49 ?_;repeat' ((conv=>whnf);first|exact kQ|(refine bk ?_ ?_<;>intro _<;>try(exfalso;omega))|refine stq ?_|refine cd h (λ_=>?_) (λ_=>?_)|refine cd h1 (λ_=>?_) (λ_=>?_)|refine cd h2 (λ_=>?_) (λ_=>?_)|fail)
 all_goals(conv=>whnf)
 all_goals first
  | exact aC.yes asm
  | exact aC.no asm
  | exact aC.no (λhc=>by have:=k1 hc;omega)
  | exact aC.no (λhc=>by have:=k2 hc;omega)
theorem Bn {d:Db}{text:List Int}(ho:d.ok):@Pu gtR Tryz.prog 22 [dbD d,aD text] (boo (decide (SmD d∧text.length<=40))):=by
 letI:=gtR;have h:=tw ho;refine pv Tryz.func22 ?_;repeat' ((conv=>whnf);first|exact kQ|(refine bk ?_ ?_<;>intro _<;>try(exfalso;omega))|refine stq ?_|refine cd h (λ_=>?_) (λ_=>?_)|fail)
 all_goals(conv=>whnf)
 all_goals first
  | exact aC.yes ⟨by assumption,by omega⟩
  | exact aC.no (λhc=>by have:=hc.2;omega)
  | exact aC.no (λhc=>by have:=hc.1;contradiction)
theorem gK {d:Db}{text:List Int}(ho:d.ok) (hs:SmD d) (h:text.length<=40):@Pu gtR Tryz.prog 22 [dbD d,aD text] (boo true):=by
 have:=Bn (text:=text) ho
 rwa [decide_eq_true ⟨hs,h⟩] at this
theorem kz {d:Db}{text:List Int}(ho:d.ok) (h:¬(SmD d∧text.length<=40)):@Pu gtR Tryz.prog 22 [dbD d,aD text] (boo false):=by
 have:=Bn (text:=text) ho
 rwa [decide_eq_false h] at this
theorem DX {d:Db}(ho:d.ok):@Pu gtR Tryz.prog 22 [dbD d,aJ] (boo (decide (SmD d))):=by
 letI:=gtR;have h:=tw ho;refine pv Tryz.func22 ?_;repeat' ((conv=>whnf);first|exact kQ|(refine bk ?_ ?_<;>intro _<;>try(exfalso;omega))|refine stq ?_|refine cd h (λ_=>?_) (λ_=>?_)|fail)
 all_goals(conv=>whnf)
 all_goals first
  | exact aC.yes asm
  | exact aC.no asm
theorem Good.wid {d:Db}(g:Good d):PrV d.wid:=g.va 2 om
theorem Good.code {d:Db}(g:Good d) (c:Int):@Pu gtR Tryz.prog 52 [bn d.wid,i64 c] (i64 (cL d.wid c)):=by
 have h:d.wid.names.length<=30∧d.wid.spans.length<=16:=g.sm.2.1 1 om;exact @GS gtR _ _ g.wid om
theorem CN {d:Db}{c:Int}(h0:@Pu gtR Tryz.prog 51 [dbD d] (i64 0)) (hl:∀ k,k<7->(prop d k).names.length<=30∧(prop d k).spans.length<=16) (h1:@Pu gtR Tryz.prog 52 [bn d.wid,i64 c] (i64 (cL d.wid c))):@Pu gtR Tryz.prog 24 [dbD d,i64 c] (i64 (cL d.wid c)):=by
 letI:=gtR;have hp:Pu Tryz.prog 53 [dbD d,i64 1] (bn d.wid):=wL hl 1 om;refine pv Tryz.func24 ?_;repeat' ((conv=>whnf);first|exact kQ|(refine bk ?_ ?_<;>intro _<;>try(exfalso;omega))|refine stq ?_|refine cp h0 ?_|refine cp hp ?_|refine cp h1 ?_|fail)
 all_goals(conv=>whnf)
 all_goals exact aC.int rfl
theorem zC {d:Db}{c:Int}(g:Good d):@Pu gtR Tryz.prog 24 [dbD d,i64 c] (i64 (cL d.wid c)):=CN g.chk (λk hk=>g.sm.2.1 k hk) (g.code c)
theorem JJ {d:Db}{c:Int}(ho:d.ok) (hs:SmD d) (hv:¬DbV d):@Pu gtR Tryz.prog 24 [dbD d,i64 c] (i64 1):=by
 letI:=gtR;obtain⟨e,he,hi⟩:=pD ho hs;have h0:e≠0:=λh=>hv (hi.1 h)
 refine pv Tryz.func24 ?_;repeat' ((conv=>whnf);first|exact kQ|(refine bk ?_ ?_<;>intro _<;>try(exfalso;omega))|refine stq ?_|refine cp he ?_|fail)
 all_goals(conv=>whnf)
 all_goals exact aC.int rfl
theorem Co {d:Db}{c:Int}(g:Good d):@Pu gtR Tryz.prog 25 [dbD d,i64 c] (i64 (cL d.wid c)):=by
 letI:=gtR;obtain⟨e,he,hi⟩:=gX g.ok g.sm;obtain rfl:=hi.2 g.va;have hc:Pu Tryz.prog 55 [bn d.wid,i64 c] (i64 (cL d.wid c)):=BI (g.ok.prop 1);refine pv Tryz.func25 ?_;repeat' ((conv=>whnf);first|exact kQ|(refine bk ?_ ?_<;>intro _<;>try(exfalso;omega))|refine stq ?_|refine cp he ?_|refine cp hc ?_|fail)
 all_goals(conv=>whnf)
 all_goals exact aC.int rfl
theorem Ey {d:Db}{c:Int}(ho:d.ok) (hs:SmD d) (hv:¬DbV d):@Pu gtR Tryz.prog 25 [dbD d,i64 c] (i64 1):=by
 letI:=gtR;obtain⟨e,he,hi⟩:=gX ho hs;have h0:e≠0:=λh=>hv (hi.1 h)
 refine pv Tryz.func25 ?_;repeat' ((conv=>whnf);first|exact kQ|(refine bk ?_ ?_<;>intro _<;>try(exfalso;omega))|refine stq ?_|refine cp he ?_|fail)
 all_goals(conv=>whnf)
 all_goals exact aC.int rfl
end
section
open Go Go.Am Classical
set_option maxRecDepth 1000000
theorem xO7.rdX {p:Prop}(h:p:=by first|exact Rd.sl' rfl om om|exact Rd.int om|exact eT rfl rfl rfl rfl|exact frz_2 rfl rfl rfl|exact Rd.int (by first|(simp only[kO,List.length_nil];omega;done)|fail)|fail):p:=h
theorem xO7.rbX {p:Prop}(h:p:=by first|exact Rb.cells (Rds.eqs (Ce om) (Ep _ _)) rfl|exact Rb.cells (Rds.eqs (En om om om om) (Ep _ _)) rfl|fail):p:=h
open xO7
abbrev u64 (n:Int):D:=.v (.int .u64 n)
theorem H5:((List.range 301).all λm=>fx gtR Tryz.prog (fD Tryz.prog) spC 100 (.fn 96) [u64 1,u64 (m:Nat)] .emp 0 (λd1 h1 _=>ek h1 100000 d1 (.tup [u64 0,u64 (m:Nat)])))=true:=by kernel_rfl
theorem mul_c {m:Nat}(h:m<=300):@Pu gtR Tryz.prog 96 [u64 1,u64 m] (.tup [u64 0,u64 m]):=by
 letI:=gtR;exact Pu.of_t aB T0 iO rfl (List.all_eq_true.1 H5 m (List.mem_range.2 om))
theorem EC {n:Int}(h0:0<=n) (h1:n<=300):IntKind.wrap .u64 n=n:=by
 unfold IntKind.wrap;simp only[IntKind.bits,IntKind.signed];simp;omega
theorem wrapI {n:Int}(h0:0<=n) (h1:n<=300):IntKind.wrap .i64 n=n:=sI (sJ om om)
def rpl (c m:Nat):List D:=(List.replicate c (32:Int)++List.replicate (m-c) (0:Int)).map i64
theorem BC {c m:Nat}(h:c<=m):(rpl c m).length=m:=by simp[rpl];omega
theorem Ep (c m:Nat):aE (rpl c m)=true:=aS (λ_=>rfl) _
theorem Em {m n:Nat}(h:m=n):cI [i64 0] m=rpl 0 n:=by subst h;rw[@dY];simp[rpl]
theorem Hd {m:Nat}:splice (rpl 0 m) 0 (([32].map i64).take (min 1 m*1))=rpl (min 1 m) m:=by
 cases m with
 | zero=>rfl
 | succ m=>rw[Nat.min_eq_left om];simp[splice,rpl]
theorem Ce {m n:Nat}(h:m=n):splice (cI [i64 0] m) 0 (([32].map i64).take (min 1 m*1))=rpl (min 1 n) n:=by rw[Em h,h,Hd]
theorem xF {c m:Nat}:((rpl c m).drop 0).take (c*1)=(List.replicate c (32:Int)).map i64:=by
 rw[List.drop_zero,Nat.mul_one,rpl,<-List.map_take,List.take_append_of_le_length si,kE si]
theorem En {c n o q r:Nat}(h:c<=n) (ho:o=c) (hq:q=min c (n-c)) (hr:r=c+q):splice (rpl c n) (0+o*1) ((((rpl c n).drop 0).take (c*1)).take (q*1))=rpl r n:=by
 subst ho hr;have h1:q<=o:=by omega
 have h2:o+q<=n:=by omega
 rw[xF,<-List.map_take,List.take_replicate,Nat.mul_one,Nat.mul_one,Nat.min_eq_left h1,splice,rpl,rpl];simp only[List.length_map,List.length_replicate,Nat.zero_add,<-List.map_take,<-List.map_drop,<-List.map_append];congr 1;rw[List.take_append_of_le_length si,kE si,List.drop_append,List.drop_of_length_le si,List.length_replicate,List.drop_replicate,List.nil_append,<-List.replicate_append_replicate];congr 2;omega
theorem HS {h:aA}{c n cap:Nat}(hg:h.get 0=some (.cells (rpl c n) true)) (hc:c<=n):bw h 1 (.sl 0 (0+Int.toNat 0*1) ((c:Int)-0).toNat cap 1 true)=some (c,((rpl c n).drop 0).take (c*1)):=by
 have e:((c:Int)-0).toNat=c:=by omega
 have hl:=BC hc;rw[e];simp only[bw,hg,if_true];rw[if_pos (by rw[hl];simp;omega)];rfl
theorem Eo (c m:Nat):d9 (((rpl c m).drop 0).take (c*1))=true:=by rw[xF];exact fj (λ_=>rfl) _
theorem Gy {n:Nat}(h:n<=300):@Pu gtR Tryz.prog 57 [aD [32],i64 n] (aD (List.replicate n 32)):=by
 letI:=gtR;have hm:=mul_c h;have hwn:=EC (n:=(n:Int)) om om;have hwi:IntKind.wrap .i64 (IntKind.wrap .u64 (n:Int))=n:=by rw[hwn,wrapI om om]
 rw[<-EC (n:=(n:Int)) om om,<-EC (n:=1) om om] at hm;refine pv Tryz.func57 ?_;repeat' ((conv=>whnf);first|exact kQ|(refine bk ?_ ?_<;>intro _<;>try(exfalso;omega))|refine stq ?_|refine cp hm ?_|refine Chk.mk (CP _) ?_|fail)
 refine aH.by aB T0 (λc:Nat=>⟨tmp 48 [(7,.sl 0 0 n n 1 true),(8,i64 (c:Int))],⟨1,[(0,.cells (rpl c n) true)]⟩⟩) (λc=>c<=n∧(0<n->0<c)) (λc=>n-c) (min 1 n) ⟨by omega,by omega⟩ ?_ ?_
 ·exact lq [(0,_)] []
 intro c ⟨h1,h2⟩;have hl:=BC h1;by_cases hc:c<n
 ·repeat' ((conv=>whnf);first|exact kQ|(refine bk ?_ ?_<;>intro _<;>try(exfalso;omega))|refine stq ?_|refine ap.by aB T0 [0,0,0,6,0,0,48,126,255,511] (by kernel_rfl) ?_|refine c9.exp (HS rfl om) ?_|refine Chk.mk (Eo _ _) ?_|refine Chk.mk (by rw[hl];omega) ?_|fail)
  all_goals(conv=>whnf)
  refine⟨c+min c (n-c),⟨by omega,by omega⟩,by omega,?_⟩;exact lq [(0,_)] []
 ·obtain rfl:c=n:=by omega
  repeat' ((conv=>whnf);first|exact kQ|(refine bk ?_ ?_<;>intro _<;>try(exfalso;omega))|refine stq ?_|fail)
  all_goals(conv=>whnf)
  exact⟨eT (b:=List.replicate c 32) rfl rfl (by rw[rpl];simp) si⟩
theorem cat_1 {k N:Nat}(h:k<=N):0+Int.toNat 0*1+(((0:Int)-0).toNat+k)*1<=(cI [i64 0] N).length:=by rw[@dY];simp;omega
theorem cat_2 {a:List Int}{k N:Nat}(h:a.length+k<=N):0+Int.toNat 0*1+(((0:Int)-0).toNat+a.length+k)*1<=(splice (cI [i64 0] N) (0+Int.toNat 0*1+((0:Int)-0).toNat*1) (a.map i64)).length:=by
 rw[@dY];simp[splice];omega
theorem cat_3 {a b:List Int}{N:Nat}(h:N=a.length+b.length):splice (splice (cI [i64 0] N) (0+Int.toNat 0*1+((0:Int)-0).toNat*1) (a.map i64)) (0+Int.toNat 0*1+(((0:Int)-0).toNat+a.length)*1) (b.map i64)=(a++b).map i64:=by
 subst h;rw[@dY];simp[splice]
theorem zB {a b:List Int}(h:a.length+b.length<=10000):@Pu gtR Tryz.prog 58 [.imm 2 [aD a,aD b]] (aD (a++b)):=by
 letI:=gtR;by_cases hz:a.length+b.length=0
 ·obtain rfl:a=[]:=List.length_eq_zero_iff.1 om;obtain rfl:b=[]:=List.length_eq_zero_iff.1 om;refine pv Tryz.func58 ?_;repeat' ((conv=>whnf);first|exact kQ|(refine bk ?_ ?_<;>intro _<;>try(exfalso;omega))|refine stq ?_|refine aH.times aB T0 3 ?_|refine Idx.mk (by decide) (by decide) rfl ?_|(apply Cll.inl aB T0 Tryz.func97 rfl rfl ?_;rotate_left)|refine c9.lst ?_|exact⟨Or.inr rfl,rfl,rfl⟩|fail)
  all_goals(conv=>whnf)
  all_goals first
   | (exfalso;simp at *;done)
   | exact⟨Rd.nil⟩
 ·refine pv Tryz.func58 ?_;repeat' ((conv=>whnf);first|exact kQ|(refine bk ?_ ?_<;>intro _<;>try(exfalso;omega))|refine stq ?_|refine aH.times aB T0 3 ?_|refine Idx.mk (by decide) (by decide) rfl ?_|refine Chk.mk ⟨by omega,by omega,(by show _*8<=1099511627776;omega),(by show 0<1;omega)⟩ ?_|refine c9.lst ?_|refine Chk.mk (fj (λ_=>rfl) _) ?_|refine Chk.mk (cat_1 om) ?_|refine Chk.mk (cat_2 om) ?_|(apply Cll.inl aB T0 Tryz.func97 rfl rfl ?_;rotate_left)|exact⟨Or.inr rfl,rfl,rfl⟩|fail)
  all_goals(conv=>whnf)
  exact⟨eT (b:=a++b) rfl rfl (cat_3 om) si⟩
def mn (text:List Int) (W n:Int) (r:Bool):List Int:=if r then List.replicate (n-W).toNat 32++text else text++List.replicate (n-W).toNat 32
theorem frz_2 [GT] {h:aA}{fz:Nat->Bool}{σ:Nat->Option Nat}{id cap:Nat}{a b:List Int}{cs:List D}{ex bx:Bool}(hf:fz id=true) (hg:h.get id=some (.cells cs bx)) (ec:cs=[aD a,aD b]):Rd h fz σ (.sl id 0 2 cap 1 ex) (.imm 2 [aD a,aD b]):=by
 subst ec;exact .frz hf hg si (.eqs rfl (by simp[aE,aI]))
theorem Ji {d:Db}{text:List Int}{W n:Int}{r:Bool}(hW:@Pu gtR Tryz.prog 26 [dbD d,aD text] (.tup [i64 W,i64 0])) (h0:0<=W∧W<=2000) (hn:n<=300) (hx:text.length<=1000):@Pu gtR Tryz.prog 28 [dbD d,aD text,i64 n,boo r] (.tup [aD (mn text W n r),i64 0]):=by
 letI:=gtR;have hR:=Gy (n:=(n-W).toNat) om;cases r
 ·have hC:Pu Tryz.prog 58 [.imm 2 [aD text,aD (List.replicate (n-W).toNat 32)]] (aD (mn text W n false)):=zB (by simp;omega);by_cases hm:W<n
  ·rw[Int.toNat_of_nonneg om] at hR;refine pv Tryz.func28 ?_;repeat' ((conv=>whnf);first|exact kQ|(refine bk ?_ ?_<;>intro _<;>try(exfalso;omega))|refine stq ?_|refine cp hW ?_|refine Cll.emb (hR ⟨0,[]⟩) [] [26] (aD (List.replicate (n-W).toNat 32)) [] [(0,.cells (dbC d) true)] rfl cE bxA rdA bxA reA ?_|refine Cll.emb (hC ⟨0,[]⟩) [] [33] (aD (mn text W n false)) [] [(0,.cells (dbC d) true)] rfl cE bxA rdA bxA reA ?_|fail)
   all_goals(conv=>whnf)
   exact⟨Rd.eqd rfl (by simp[aN,aE,aI])⟩
  ·rw[show(((n-W).toNat:Nat):Int)=0 by omega] at hR;refine pv Tryz.func28 ?_;repeat' ((conv=>whnf);first|exact kQ|(refine bk ?_ ?_<;>intro _<;>try(exfalso;omega))|refine stq ?_|refine cp hW ?_|refine Cll.emb (hR ⟨0,[]⟩) [] [22] (aD (List.replicate (n-W).toNat 32)) [] [(0,.cells (dbC d) true)] rfl cE bxA rdA bxA reA ?_|refine Cll.emb (hC ⟨0,[]⟩) [] [29] (aD (mn text W n false)) [] [(0,.cells (dbC d) true)] rfl cE bxA rdA bxA reA ?_|fail)
   all_goals(conv=>whnf)
   exact⟨Rd.eqd rfl (by simp[aN,aE,aI])⟩
 ·have hC:Pu Tryz.prog 58 [.imm 2 [aD (List.replicate (n-W).toNat 32),aD text]] (aD (mn text W n true)):=zB (by simp;omega);by_cases hm:W<n
  ·rw[Int.toNat_of_nonneg om] at hR;refine pv Tryz.func28 ?_;repeat' ((conv=>whnf);first|exact kQ|(refine bk ?_ ?_<;>intro _<;>try(exfalso;omega))|refine stq ?_|refine cp hW ?_|refine Cll.emb (hR ⟨0,[]⟩) [] [26] (aD (List.replicate (n-W).toNat 32)) [] [(0,.cells (dbC d) true)] rfl cE bxA rdA bxA reA ?_|refine Cll.emb (hC ⟨0,[]⟩) [] [33] (aD (mn text W n true)) [] [(0,.cells (dbC d) true)] rfl cE bxA rdA bxA reA ?_|fail)
   all_goals(conv=>whnf)
   exact⟨Rd.eqd rfl (by simp[aN,aE,aI])⟩
  ·rw[show(((n-W).toNat:Nat):Int)=0 by omega] at hR;refine pv Tryz.func28 ?_;repeat' ((conv=>whnf);first|exact kQ|(refine bk ?_ ?_<;>intro _<;>try(exfalso;omega))|refine stq ?_|refine cp hW ?_|refine Cll.emb (hR ⟨0,[]⟩) [] [22] (aD (List.replicate (n-W).toNat 32)) [] [(0,.cells (dbC d) true)] rfl cE bxA rdA bxA reA ?_|refine Cll.emb (hC ⟨0,[]⟩) [] [29] (aD (mn text W n true)) [] [(0,.cells (dbC d) true)] rfl cE bxA rdA bxA reA ?_|fail)
   all_goals(conv=>whnf)
   exact⟨Rd.eqd rfl (by simp[aN,aE,aI])⟩
end
end Go.Proofs.YtbmdndckndnehaaGreatDoor
