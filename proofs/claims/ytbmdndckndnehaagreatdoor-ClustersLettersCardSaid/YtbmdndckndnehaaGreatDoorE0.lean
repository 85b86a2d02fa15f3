/-
  Contracts of functions over data: bytes and words of rules.
-/
import Derived.Test.YtbmdndckndnehaaGreatDoorC0
import Derived.Test.YtbmdndckndnehaaGreatDoorAmF
import Derived.Lib.Bytealg
set_option linter.unusedSectionVars false
namespace Go.Proofs.YtbmdndckndnehaaGreatDoor
section
open Go Go.Am Classical
set_option maxRecDepth 100000
variable [GT]
def wb (n:Int):Prop:=(65<=n∧n<=90)∨(97<=n∧n<=122)∨(48<=n∧n<=57)∨n=95
def xN (s:Str):Prop:=∀ i (h:i<s.length),wb (s[i].toNat:Int)
def kw:List Str:=[[107,101,101,112],[98,114,101,97,107],[109,117,115,116],[97,116,116,97,99,104],[97,110,121],[115,116,97,114,116],[101,110,100]]
theorem qL {n:Int}:Pu Tryz.prog 203 [.v (.int .u8 n)] (boo (decide (wb n))):=by
 refine pv Tryz.func203 ?_;repeat' ((conv=>whnf);first|exact kQ|(refine bk ?_ ?_<;>intro _<;>try(exfalso;omega))|refine stq ?_)
 all_goals(conv=>whnf)
 all_goals first
  | exact aC.yes (by unfold wb;omega)
  | exact aC.no (by unfold wb;omega)
theorem EE {s:Str}:Pu Tryz.prog 204 [.str s] (boo (decide (s∈kw))):=by
 refine pv Tryz.func204 ?_;repeat' ((conv=>whnf);first|exact kQ|(refine bk ?_ ?_<;>intro _<;>try(exfalso;omega))|refine stq ?_)
 all_goals(conv=>whnf)
 all_goals first
  | exact aC.yes (by simp_all [kw])
  | exact aC.no (by simp_all [kw])
theorem wh {s:Str}(hs:s.length<=9223372036854775807):Pu Tryz.prog 181 [.str s] (boo (decide (xN s∧s≠[]∧¬s∈kw))):=by
 refine pv Tryz.func181 ?_;repeat' ((conv=>whnf);first|exact kQ|(refine bk ?_ ?_<;>intro _<;>try(exfalso;omega))|refine stq ?_)
 refine aH.by aB T0 (λk:Nat=>⟨tmp 22 [(0,.str s),(5,i64 s.length),(6,i64 (k:Int))],⟨0,[]⟩⟩) (λk=>k<=s.length∧∀ i (h:i<s.length),i<k->wb (s[i].toNat:Int)) (λk=>s.length-k) 0 ⟨by omega,λ_ _ h=>by omega⟩ ?_ ?_
 ·exact lq0
 intro k ⟨h1,h2⟩;repeat' ((conv=>whnf);first|exact kQ|(refine bk ?_ ?_<;>intro _<;>try(exfalso;omega))|refine stq ?_|refine cd qL (λ_=>?_) (λ_=>?_)|refine cd EE (λ_=>?_) (λ_=>?_)|fail)
 all_goals(conv=>whnf)
 all_goals first
  | exact aC.no (λhc=>absurd (hc.1 k om) asm)
  | exact aC.no (λhc=>hc.2.1 asm)
  | exact aC.no (λhc=>hc.2.2 asm)
  | exact aC.yes ⟨bZ om h2,by assumption,by assumption⟩
  | skip
 refine⟨k+1,⟨by omega,ae om h2 asm⟩,by omega,?_⟩;exact lq0
def wbN (k:Nat):Bool:=(Nat.ble 65 k&&Nat.ble k 90) || (Nat.ble 97 k&&Nat.ble k 122) || (Nat.ble 48 k&&Nat.ble k 57) || Nat.beq k 95
theorem t8 {k:Nat}:wbN k=true↔wb (k:Int):=by
 simp only[wbN,wb,kN,kC,Nat.ble_eq,Nat.beq_eq];omega
def HU:Str->Bool
 | []=>true
 | b::s=>wbN b.toNat&&HU s
theorem xO:∀ {s:Str},HU s=true↔xN s
 | []=>⟨λ_ i h=>by simp at h,λ_=>rfl⟩
 | b::s=>by
  simp only[HU,kC,t8,xO (s:=s)];constructor
  ·intro h i hi;cases i with
   | zero=>exact h.1
   | succ i=>exact h.2 i (by simpa using hi)
  ·intro h;exact⟨h 0 si,λi hi=>h (i+1) (by simpa using hi)⟩
def Bi (s:Str):List Str->Bool
 | []=>false
 | t::l=>iA s t || Bi s l
theorem qw {s:Str}:∀ {l:List Str},Bi s l=true↔s∈l
 | []=>by simp[Bi]
 | t::l=>by simp[Bi,cD,qw (l:=l)]
def qt (s:Str):Bool:=HU s&&(match s with|[]=>false|_=>true)&&!Bi s kw
theorem nr {s:Str}:qt s=true↔(xN s∧s≠[]∧¬s∈kw):=by
 simp only[qt,kC,xO,Bool.not_eq_true',<-Bool.not_eq_true,qw];cases s<;>simp
theorem xq {k:Nat}:Pu Tryz.prog 203 [.v (.int .u8 (k:Int))] (boo (wbN k)):=by
 have:=qL (n:=(k:Int))
 rwa [show decide (wb (k:Int))=wbN k from by
  by_cases hb:wbN k=true
  ·rw[hb];exact decide_eq_true (t8.1 hb)
  ·rw[Bool.not_eq_true] at hb;rw[hb];exact decide_eq_false (λh=>by rw[t8.2 h] at hb;cases hb)] at this
theorem EF {s:Str}(hs:s.length<=1000):Pu Tryz.prog 181 [.str s] (boo (qt s)):=by
 have:=wh (s:=s) om
 rwa [show decide (xN s∧s≠[]∧¬s∈kw)=qt s from by
  by_cases hb:qt s=true
  ·rw[hb];exact decide_eq_true (nr.1 hb)
  ·rw[Bool.not_eq_true] at hb;rw[hb];exact decide_eq_false (λh=>by rw[nr.2 h] at hb;cases hb)] at this
end
section
open Go Go.Am Classical
set_option maxRecDepth 100000
variable [GT]
theorem Hh {b:UInt8}:(b.toNat:Int).toNat.toUInt8=b:=by
 simp
theorem HA {s:Str}{b:UInt8}{h:aA}:CT Tryz.prog 247 [.str s,byt b] h (i64 (Lib.countByte s b:Nat)):=by
 intro c vs R hvs;obtain⟨y1,ys,rfl,v1,hvs⟩:=hvs.inv;obtain⟨y2,ys,rfl,v2,hvs⟩:=hvs.inv;simp only[VS] at hvs;subst hvs;simp only[V] at v1 v2;obtain⟨_,rfl⟩:=v2;subst v1;refine⟨.int .i64 (Lib.countByte s b:Nat),?_,by simp[V,cX]⟩;show(callFunc 247 #[.string ⟨s.toArray⟩,.int .u8 (b.toNat:Int)]).run Tryz.prog c.w=_;rw[run_callFunc_extern Tryz.func247 (by kernel_rfl) (by kernel_rfl) (by kernel_rfl) (e:=Extern.BytealgCount.count) (by kernel_rfl),Lib.run_countString,Hh];rfl
theorem Gl {s:Str}{b:UInt8}{h:aA}:CT Tryz.prog 280 [.str s,byt b] h (i64 (Lib.indexByte s b)):=by
 intro c vs R hvs;obtain⟨y1,ys,rfl,v1,hvs⟩:=hvs.inv;obtain⟨y2,ys,rfl,v2,hvs⟩:=hvs.inv;simp only[VS] at hvs;subst hvs;simp only[V] at v1 v2;obtain⟨_,rfl⟩:=v2;subst v1;refine⟨.int .i64 (Lib.indexByte s b),?_,by simp[V,cX]⟩;show(callFunc 280 #[.string ⟨s.toArray⟩,.int .u8 (b.toNat:Int)]).run Tryz.prog c.w=_;rw[run_callFunc_extern Tryz.func280 (by kernel_rfl) (by kernel_rfl) (by kernel_rfl) (e:=Extern.BytealgIndexByte.indexByte) (by kernel_rfl),Lib.run_indexByteString,Hh];rfl
theorem Hc {s:Str}{b:UInt8}:Pu Tryz.prog 215 [.str s,.str [b]] (i64 (Lib.countByte s b:Nat)):=by
 refine pv Tryz.func215 ?_;have hl1:([b]:Str).length=1:=rfl;repeat' ((conv=>whnf);first|refine zN.mk si si ?_|refine eH.goX aB T0 ?_|exact kQ|(refine bk ?_ ?_<;>intro _<;>try(exfalso;omega))|refine stq ?_|refine sK.ext HA ?_|fail)
 all_goals(conv=>whnf)
 all_goals first|exact aC.same rfl rfl
theorem xb {s:Str}{b:UInt8}:Pu Tryz.prog 266 [.str s,byt b] (i64 (Lib.indexByte s b)):=by
 refine pv Tryz.func266 ?_;repeat' ((conv=>whnf);first|refine eH.goX aB T0 ?_|exact kQ|(refine bk ?_ ?_<;>intro _<;>try(exfalso;omega))|refine stq ?_|refine sK.ext Gl ?_|fail)
 all_goals(conv=>whnf)
 all_goals first|exact aC.same rfl rfl
noncomputable def Ez (l:Str):Nat->Nat:=List.rec (motive:=λ_=>Nat->Nat) (λ_=>0) (λx _ ih c=>Bool.rec (motive:=λ_=>Nat) (ih c) (ih c+1) (Nat.beq x.toNat c)) l
noncomputable def FG (l:Str):Nat->Nat->Int:=List.rec (motive:=λ_=>Nat->Nat->Int) (λ_ _=>-1) (λx _ ih c k=>Bool.rec (motive:=λ_=>Int) (ih c (k+1)) (Int.ofNat k) (Nat.beq x.toNat c)) l
theorem FH {x b:UInt8}:Nat.beq x.toNat b.toNat=(x == b):=by
 by_cases h:x=b
 ·subst h;simp[Nat.beq_refl]
 ·have:x.toNat≠b.toNat:=λe=>h (UInt8.toNat_inj.1 e)
  have e1:(x == b)=false:=beq_eq_false_iff_ne.2 h;rw[e1];cases hb:Nat.beq x.toNat b.toNat with
  | false=>rfl
  | true=>exact absurd (Nat.eq_of_beq_eq_true hb) this
theorem Ab {b:UInt8}:∀ {l:Str},Ez l b.toNat=Lib.countByte l b
 | []=>rfl
 | x::l=>by
  show Bool.rec (motive:=λ_=>Nat) (Ez l b.toNat) (Ez l b.toNat+1) (Nat.beq x.toNat b.toNat)=_;rw[FH,Ab (l:=l)];unfold Lib.countByte;rw[List.count_cons];cases x == b<;>rfl
theorem Al {b:UInt8}:∀ {l:Str}{k:Nat},FG l b.toNat k=if Lib.indexByte l b = -1 then -1 else Lib.indexByte l b+k
 | [],_=>rfl
 | x::l,k=>by
  show Bool.rec (motive:=λ_=>Int) (FG l b.toNat (k+1)) (Int.ofNat k) (Nat.beq x.toNat b.toNat)=_;rw[FH,Al (l:=l)];have hge:=Lib.indexByte_ge l b;rw[show Lib.indexByte (x::l) b=if x == b then 0 else if Lib.indexByte l b == -1 then -1 else Lib.indexByte l b+1 from rfl];cases hx:x == b
  ·simp only[Bool.false_eq_true,if_false,beq_iff_eq];by_cases h:Lib.indexByte l b = -1
   ·simp[h]
   ·have:¬Lib.indexByte l b+1 = -1:=by omega
    simp only[h,this,if_false];omega
  ·simp
theorem Hd {s:Str}{b:UInt8}:Pu Tryz.prog 215 [.str s,.str [b]] (i64 (Int.ofNat (Ez s b.toNat))):=by
 rw[Ab];exact Hc
theorem xe {s:Str}{b:UInt8}:Pu Tryz.prog 266 [.str s,.v (.int .u8 (Int.ofNat b.toNat))] (i64 (FG s b.toNat 0)):=by
 have e:FG s b.toNat 0=Lib.indexByte s b:=by
  rw[Al];split
  ·rename_i h;exact h.symm
  ·simp
 rw[e];exact xb
end
end Go.Proofs.YtbmdndckndnehaaGreatDoor
