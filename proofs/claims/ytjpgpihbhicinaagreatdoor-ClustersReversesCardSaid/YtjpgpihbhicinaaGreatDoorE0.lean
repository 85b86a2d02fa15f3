/-
  Contracts of functions over data: bytes and words of rules.
-/
import Derived.Test.YtjpgpihbhicinaaGreatDoorC0
import Derived.Test.YtjpgpihbhicinaaGreatDoorAmF
import Derived.Lib.Bytealg
set_option linter.unusedSectionVars false
namespace Go.Proofs.YtjpgpihbhicinaaGreatDoor
section
open Go Go.Am Classical
set_option maxRecDepth 100000
variable [GT]
def wb (n:Int):Prop:=(65<=n∧n<=90)∨(97<=n∧n<=122)∨(48<=n∧n<=57)∨n=95
def wP (s:Str):Prop:=∀ i (h:i<s.length),wb (s[i].toNat:Int)
def kw:List Str:=[[107,101,101,112],[98,114,101,97,107],[109,117,115,116],[97,116,116,97,99,104],[97,110,121],[115,116,97,114,116],[101,110,100]]
theorem lv {n:Int}:Pu Tryz.prog 181 [.v (.int .u8 n)] (boo (decide (wb n))):=by
 refine Pu.of_v aA T0 Tryz.func181 rfl rfl rfl ?_;repeat' ((conv=>whnf)<;>(first|refine sg ?_|exact kQ|(refine Br.mk ?_ ?_<;>intro _<;>try(exfalso;omega))|refine stq ?_))
 all_goals(conv=>whnf)
 all_goals first
  | exact aI.yes (by unfold wb;omega)
  | exact aI.no (by unfold wb;omega)
theorem vj {s:Str}:Pu Tryz.prog 182 [.str s] (boo (decide (s∈kw))):=by
 refine Pu.of_v aA T0 Tryz.func182 rfl rfl rfl ?_;repeat' ((conv=>whnf)<;>(first|refine sg ?_|exact kQ|(refine Br.mk ?_ ?_<;>intro _<;>try(exfalso;omega))|refine stq ?_))
 all_goals(conv=>whnf)
 all_goals first
  | exact aI.yes (by simp_all [kw])
  | exact aI.no (by simp_all [kw])
theorem qV {s:Str}(hs:s.length<=9223372036854775807):Pu Tryz.prog 159 [.str s] (boo (decide (wP s∧s≠[]∧¬s∈kw))):=by
 refine Pu.of_v aA T0 Tryz.func159 rfl rfl rfl ?_;repeat' ((conv=>whnf)<;>(first|refine sg ?_|exact kQ|(refine Br.mk ?_ ?_<;>intro _<;>try(exfalso;omega))|refine stq ?_))
 refine aU.by aA T0 (fun k:Nat=>⟨tmp 22 [(0,.str s),(5,i64 s.length),(6,i64 (k:Int))],⟨0,[]⟩⟩) (fun k=>k<=s.length∧∀ i (h:i<s.length),i<k->wb (s[i].toNat:Int)) (fun k=>s.length-k) 0 ⟨by omega,fun _ _ h=>by omega⟩ ?_ ?_
 ·exact Lf.of2 [] [] enA bxA rfl rfl
 intro k ⟨h1,h2⟩;repeat' ((conv=>whnf)<;>(first|refine sg ?_|exact kQ|(refine Br.mk ?_ ?_<;>intro _<;>try(exfalso;omega))|refine stq ?_|refine Cll.dec (lv) (fun _=>?_) (fun _=>?_)|refine aO.dec (lv) (fun _=>?_) (fun _=>?_)|refine Cll.dec (vj) (fun _=>?_) (fun _=>?_)|refine aO.dec (vj) (fun _=>?_) (fun _=>?_)))
 all_goals(conv=>whnf)
 all_goals first
  | exact aI.no (fun hc=>absurd (hc.1 k (by omega)) (by assumption))
  | exact aI.no (fun hc=>hc.2.1 (by assumption))
  | exact aI.no (fun hc=>hc.2.2 (by assumption))
  | exact aI.yes ⟨cD (by omega) h2,by assumption,by assumption⟩
  | skip
 refine⟨k+1,⟨by omega,ay (by omega) h2 (by assumption)⟩,by omega,?_⟩;exact Lf.of2 [] [] enA bxA rfl rfl
def wbN (k:Nat):Bool:=(Nat.ble 65 k&&Nat.ble k 90) || (Nat.ble 97 k&&Nat.ble k 122) || (Nat.ble 48 k&&Nat.ble k 57) || Nat.beq k 95
theorem s8 {k:Nat}:wbN k=true↔wb (k:Int):=by
 simp only[wbN,wb,kN,kC,Nat.ble_eq,Nat.beq_eq];omega
def FF:Str->Bool
 | []=>true
 | b::s=>wbN b.toNat&&FF s
theorem wQ:∀ {s:Str},FF s=true↔wP s
 | []=>⟨fun _ i h=>by simp at h,fun _=>rfl⟩
 | b::s=>by
  simp only[FF,kC,s8,wQ (s:=s)];constructor
  ·intro h i hi;cases i with
   | zero=>exact h.1
   | succ i=>exact h.2 i (by simpa using hi)
  ·intro h;exact⟨h 0 (by simp),fun i hi=>h (i+1) (by simpa using hi)⟩
def AD (s:Str):List Str->Bool
 | []=>false
 | t::l=>jj s t || AD s l
theorem qP {s:Str}:∀ {l:List Str},AD s l=true↔s∈l
 | []=>by simp[AD]
 | t::l=>by simp[AD,ci,qP (l:=l)]
def qM (s:Str):Bool:=FF s&&(match s with|[]=>false|_=>true)&&!AD s kw
theorem ni {s:Str}:qM s=true↔(wP s∧s≠[]∧¬s∈kw):=by
 simp only[qM,kC,wQ,Bool.not_eq_true',<-Bool.not_eq_true,qP];cases s<;>simp
theorem wn {k:Nat}:Pu Tryz.prog 181 [.v (.int .u8 (k:Int))] (boo (wbN k)):=by
 have:=lv (n:=(k:Int))
 rwa [show decide (wb (k:Int))=wbN k from by
  by_cases hb:wbN k=true
  ·rw[hb];exact decide_eq_true (s8.1 hb)
  ·rw[Bool.not_eq_true] at hb;rw[hb];exact decide_eq_false (fun h=>by rw[s8.2 h] at hb;cases hb)] at this
theorem CO {s:Str}(hs:s.length<=1000):Pu Tryz.prog 159 [.str s] (boo (qM s)):=by
 have:=qV (s:=s) (by omega)
 rwa [show decide (wP s∧s≠[]∧¬s∈kw)=qM s from by
  by_cases hb:qM s=true
  ·rw[hb];exact decide_eq_true (ni.1 hb)
  ·rw[Bool.not_eq_true] at hb;rw[hb];exact decide_eq_false (fun h=>by rw[ni.2 h] at hb;cases hb)] at this
end
section
open Go Go.Am Classical
set_option maxRecDepth 100000
variable [GT]
theorem FU {b:UInt8}:(b.toNat:Int).toNat.toUInt8=b:=by
 simp
theorem E0 {s:Str}{b:UInt8}{h:aC}:Ao Tryz.prog 224 [.str s,byt b] h (i64 (Lib.countByte s b:Nat)):=by
 intro c vs R hvs;obtain⟨y1,ys,rfl,v1,hvs⟩:=hvs.inv;obtain⟨y2,ys,rfl,v2,hvs⟩:=hvs.inv;simp only[VS] at hvs;subst hvs;simp only[V] at v1 v2;obtain⟨_,rfl⟩:=v2;subst v1;refine⟨.int .i64 (Lib.countByte s b:Nat),?_,by simp[V,cy]⟩;show(callFunc 224 #[.string ⟨s.toArray⟩,.int .u8 (b.toNat:Int)]).run Tryz.prog c.w=_;rw[run_callFunc_extern Tryz.func224 (by kernel_rfl) (by kernel_rfl) (by kernel_rfl) (e:=Extern.BytealgCount.count) (by kernel_rfl),Lib.run_countString,FU];rfl
theorem Ej {s:Str}{b:UInt8}{h:aC}:Ao Tryz.prog 258 [.str s,byt b] h (i64 (Lib.indexByte s b)):=by
 intro c vs R hvs;obtain⟨y1,ys,rfl,v1,hvs⟩:=hvs.inv;obtain⟨y2,ys,rfl,v2,hvs⟩:=hvs.inv;simp only[VS] at hvs;subst hvs;simp only[V] at v1 v2;obtain⟨_,rfl⟩:=v2;subst v1;refine⟨.int .i64 (Lib.indexByte s b),?_,by simp[V,cy]⟩;show(callFunc 258 #[.string ⟨s.toArray⟩,.int .u8 (b.toNat:Int)]).run Tryz.prog c.w=_;rw[run_callFunc_extern Tryz.func258 (by kernel_rfl) (by kernel_rfl) (by kernel_rfl) (e:=Extern.BytealgIndexByte.indexByte) (by kernel_rfl),Lib.run_indexByteString,FU];rfl
theorem FP {s:Str}{b:UInt8}:Pu Tryz.prog 189 [.str s,.str [b]] (i64 (Lib.countByte s b:Nat)):=by
 refine Pu.of_v aA T0 Tryz.func189 rfl rfl rfl ?_;have hl1:([b]:Str).length=1:=rfl;repeat' ((conv=>whnf)<;>(first|refine x9.mk (by simp) (by simp) ?_|refine eW.goX aA T0 ?_|refine sg ?_|exact kQ|(refine Br.mk ?_ ?_<;>intro _<;>try(exfalso;omega))|refine stq ?_|refine rU.ext E0 ?_|fail))
 all_goals(conv=>whnf)
 all_goals first|exact aI.same rfl rfl
theorem wc {s:Str}{b:UInt8}:Pu Tryz.prog 244 [.str s,byt b] (i64 (Lib.indexByte s b)):=by
 refine Pu.of_v aA T0 Tryz.func244 rfl rfl rfl ?_;repeat' ((conv=>whnf)<;>(first|refine eW.goX aA T0 ?_|refine sg ?_|exact kQ|(refine Br.mk ?_ ?_<;>intro _<;>try(exfalso;omega))|refine stq ?_|refine rU.ext Ej ?_|fail))
 all_goals(conv=>whnf)
 all_goals first|exact aI.same rfl rfl
noncomputable def C5 (l:Str):Nat->Nat:=List.rec (motive:=fun _=>Nat->Nat) (fun _=>0) (fun x _ ih c=>Bool.rec (motive:=fun _=>Nat) (ih c) (ih c+1) (Nat.beq x.toNat c)) l
noncomputable def DI (l:Str):Nat->Nat->Int:=List.rec (motive:=fun _=>Nat->Nat->Int) (fun _ _=>-1) (fun x _ ih c k=>Bool.rec (motive:=fun _=>Int) (ih c (k+1)) (Int.ofNat k) (Nat.beq x.toNat c)) l
theorem DJ {x b:UInt8}:Nat.beq x.toNat b.toNat=(x == b):=by
 by_cases h:x=b
 ·subst h;simp[Nat.beq_refl]
 ·have:x.toNat≠b.toNat:=fun e=>h (UInt8.toNat_inj.1 e)
  have e1:(x == b)=false:=beq_eq_false_iff_ne.2 h;rw[e1];cases hb:Nat.beq x.toNat b.toNat with
  | false=>rfl
  | true=>exact absurd (Nat.eq_of_beq_eq_true hb) this
theorem zH {b:UInt8}:∀ {l:Str},C5 l b.toNat=Lib.countByte l b
 | []=>rfl
 | x::l=>by
  show Bool.rec (motive:=fun _=>Nat) (C5 l b.toNat) (C5 l b.toNat+1) (Nat.beq x.toNat b.toNat)=_;rw[DJ,zH (l:=l)];unfold Lib.countByte;rw[List.count_cons];cases x == b<;>rfl
theorem zO {b:UInt8}:∀ {l:Str}{k:Nat},DI l b.toNat k=if Lib.indexByte l b = -1 then -1 else Lib.indexByte l b+k
 | [],_=>rfl
 | x::l,k=>by
  show Bool.rec (motive:=fun _=>Int) (DI l b.toNat (k+1)) (Int.ofNat k) (Nat.beq x.toNat b.toNat)=_;rw[DJ,zO (l:=l)];have hge:=Lib.indexByte_ge l b;rw[show Lib.indexByte (x::l) b=if x == b then 0 else if Lib.indexByte l b == -1 then -1 else Lib.indexByte l b+1 from rfl];cases hx:x == b
  ·simp only[Bool.false_eq_true,if_false,beq_iff_eq];by_cases h:Lib.indexByte l b = -1
   ·simp[h]
   ·have:¬Lib.indexByte l b+1 = -1:=by omega
    simp only[h,this,if_false];omega
  ·simp
theorem FQ {s:Str}{b:UInt8}:Pu Tryz.prog 189 [.str s,.str [b]] (i64 (Int.ofNat (C5 s b.toNat))):=by
 rw[zH];exact FP
theorem wd {s:Str}{b:UInt8}:Pu Tryz.prog 244 [.str s,.v (.int .u8 (Int.ofNat b.toNat))] (i64 (DI s b.toNat 0)):=by
 have e:DI s b.toNat 0=Lib.indexByte s b:=by
  rw[zO];split
  ·rename_i h;exact h.symm
  ·simp
 rw[e];exact wc
end
end Go.Proofs.YtjpgpihbhicinaaGreatDoor
