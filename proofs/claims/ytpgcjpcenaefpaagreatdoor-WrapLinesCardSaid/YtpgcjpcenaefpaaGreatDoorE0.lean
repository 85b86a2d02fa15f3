/-
  Contracts of functions over data: bytes and words of rules.
-/
import Derived.Test.YtpgcjpcenaefpaaGreatDoorC0
import Derived.Test.YtpgcjpcenaefpaaGreatDoorAmF
import Derived.Lib.Bytealg
set_option linter.unusedSectionVars false
namespace Go.Proofs.YtpgcjpcenaefpaaGreatDoor
section
open Go Go.Am Classical
set_option maxRecDepth 100000
variable [GT]
def wb (n:Int):Prop:=(65<=n/\n<=90)\/(97<=n/\n<=122)\/(48<=n/\n<=57)\/n=95
def yQ (s:Str):Prop:=∀ i (h:i<s.length),wb (s[i].toNat:Int)
def kw:List Str:=[[107,101,101,112],[98,114,101,97,107],[109,117,115,116],[97,116,116,97,99,104],[97,110,121],[115,116,97,114,116],[101,110,100]]
theorem qC {n:Int}:Pu Tryz.prog 208 [.v (.int .u8 n)] (boo (decide (wb n))):=by
 refine pv Tryz.func208 ?_;repeat' ((conv=>whnf);first|exact kQ|(refine bk ?_ ?_<;>intro _<;>try exact exo)|refine stq ?_)
 all_goals(conv=>whnf)
 all_goals first
  | exact aC.yes (by unfold wb;omega)
  | exact aC.no (by unfold wb;omega)
theorem FF {s:Str}:Pu Tryz.prog 209 [.str s] (boo (decide (s∈kw))):=by
 refine pv Tryz.func209 ?_;repeat' ((conv=>whnf);first|exact kQ|(refine bk ?_ ?_<;>intro _<;>try exact exo)|refine stq ?_)
 all_goals(conv=>whnf)
 all_goals first
  | exact aC.yes (by simp_all [kw])
  | exact aC.no (by simp_all [kw])
theorem xa {s:Str}(hs:s.length<=9223372036854775807):Pu Tryz.prog 178 [.str s] (boo (decide (yQ s/\s≠[]/\¬s∈kw))):=by
 refine pv Tryz.func178 ?_;repeat' ((conv=>whnf);first|exact kQ|(refine bk ?_ ?_<;>intro _<;>try exact exo)|refine stq ?_)
 refine aG.by aB T0 (λk:Nat=>⟨tmp 22 [(0,.str s),(5,i64 s.length),(6,i64 (k:Int))],⟨0,[]⟩⟩) (λk=>k<=s.length/\∀ i (h:i<s.length),i<k->wb (s[i].toNat:Int)) (λk=>s.length-k) 0 ⟨om,λ_ _ h=>om⟩ ?_ ?_
 .exact lq0
 intro k ⟨h1,h2⟩;repeat' ((conv=>whnf);first|exact kQ|(refine bk ?_ ?_<;>intro _<;>try exact exo)|refine stq ?_|refine cd qC (λ_=>?_) (λ_=>?_)|refine cd FF (λ_=>?_) (λ_=>?_)|fail)
 all_goals(conv=>whnf)
 all_goals first
  | exact aC.no (λhc=>absurd (hc.1 k om) asm)
  | exact aC.no (λhc=>hc.2.1 asm)
  | exact aC.no (λhc=>hc.2.2 asm)
  | exact aC.yes ⟨bh om h2,asm,asm⟩
  | skip
 refine⟨k+1,⟨om,ag om h2 asm⟩,om,?_⟩;exact lq0
def wbN (k:Nat):Bool:=(Nat.ble 65 k&&Nat.ble k 90) || (Nat.ble 97 k&&Nat.ble k 122) || (Nat.ble 48 k&&Nat.ble k 57) || Nat.beq k 95
theorem pG {k:Nat}:wbN k=true↔wb (k:Int):=by
 simp only[wbN,wb,kN,kC,Nat.ble_eq,Nat.beq_eq];omega
def IY:Str->Bool
 | []=>true
 | b::s=>wbN b.toNat&&IY s
theorem yS:∀ {s:Str},IY s=true↔yQ s
 | []=>⟨λ_ i h=>by simp at h,λ_=>rfl⟩
 | b::s=>by
  simp only[IY,kC,pG,yS (s:=s)];constructor
  .intro h i hi;cases i with
   | zero=>exact h.1
   | succ i=>exact h.2 i (by simpa using hi)
  .intro h;exact⟨h 0 si,λi hi=>h (i+1) (by simpa using hi)⟩
def CX (s:Str):List Str->Bool
 | []=>false
 | t::l=>jG s t || CX s l
theorem qn {s:Str}:∀ {l:List Str},CX s l=true↔s∈l
 | []=>by simp[CX]
 | t::l=>by simp[CX,cK,qn (l:=l)]
def qj (s:Str):Bool:=IY s&&(match s with|[]=>false|_=>true)&&!CX s kw
theorem ny {s:Str}:qj s=true↔(yQ s/\s≠[]/\¬s∈kw):=by
 simp only[qj,kC,yS,Bool.not_eq_true',<-Bool.not_eq_true,qn];cases s<;>simp
theorem yv {k:Nat}:Pu Tryz.prog 208 [.v (.int .u8 (k:Int))] (boo (wbN k)):=by
 have:=qC (n:=(k:Int))
 rwa [show decide (wb (k:Int))=wbN k from by
  by_cases hb:wbN k=true
  .rw[hb];exact decide_eq_true (pG.1 hb)
  .rw[Bool.not_eq_true] at hb;rw[hb];exact decide_eq_false (λh=>by rw[pG.2 h] at hb;cases hb)] at this
theorem FG {s:Str}(hs:s.length<=1000):Pu Tryz.prog 178 [.str s] (boo (qj s)):=by
 have:=xa (s:=s) om
 rwa [show decide (yQ s/\s≠[]/\¬s∈kw)=qj s from by
  by_cases hb:qj s=true
  .rw[hb];exact decide_eq_true (ny.1 hb)
  .rw[Bool.not_eq_true] at hb;rw[hb];exact decide_eq_false (λh=>by rw[ny.2 h] at hb;cases hb)] at this
end
section
open Go Go.Am Classical
set_option maxRecDepth 100000
variable [GT]
theorem Ip {b:UInt8}:(b.toNat:Int).toNat.toUInt8=b:=by
 simp
theorem IE {s:Str}{b:UInt8}{h:aA}:DN Tryz.prog 250 [.str s,byt b] h (i64 (Lib.countByte s b:Nat)):=by
 intro c vs R hvs;obtain⟨y1,ys,rfl,v1,hvs⟩:=hvs.inv;obtain⟨y2,ys,rfl,v2,hvs⟩:=hvs.inv;simp only[VS] at hvs;subst hvs;simp only[V] at v1 v2;obtain⟨_,rfl⟩:=v2;subst v1;refine⟨.int .i64 (Lib.countByte s b:Nat),?_,by simp[V,cn]⟩;show(callFunc 250 #[.string ⟨s.toArray⟩,.int .u8 (b.toNat:Int)]).run Tryz.prog c.w=_;rw[run_callFunc_extern Tryz.func250 (by kernel_rfl) (by kernel_rfl) (by kernel_rfl) (e:=Extern.BytealgCount.count) (by kernel_rfl),Lib.run_countString,Ip];rfl
theorem Hw {s:Str}{b:UInt8}{h:aA}:DN Tryz.prog 283 [.str s,byt b] h (i64 (Lib.indexByte s b)):=by
 intro c vs R hvs;obtain⟨y1,ys,rfl,v1,hvs⟩:=hvs.inv;obtain⟨y2,ys,rfl,v2,hvs⟩:=hvs.inv;simp only[VS] at hvs;subst hvs;simp only[V] at v1 v2;obtain⟨_,rfl⟩:=v2;subst v1;refine⟨.int .i64 (Lib.indexByte s b),?_,by simp[V,cn]⟩;show(callFunc 283 #[.string ⟨s.toArray⟩,.int .u8 (b.toNat:Int)]).run Tryz.prog c.w=_;rw[run_callFunc_extern Tryz.func283 (by kernel_rfl) (by kernel_rfl) (by kernel_rfl) (e:=Extern.BytealgIndexByte.indexByte) (by kernel_rfl),Lib.run_indexByteString,Ip];rfl
theorem Ij {s:Str}{b:UInt8}:Pu Tryz.prog 217 [.str s,.str [b]] (i64 (Lib.countByte s b:Nat)):=by
 refine pv Tryz.func217 ?_;have hl1:([b]:Str).length=1:=rfl;repeat' ((conv=>whnf);first|refine AJ.mk si si ?_|refine cZ.goX aB T0 ?_|exact kQ|(refine bk ?_ ?_<;>intro _<;>try exact exo)|refine stq ?_|refine sP.ext IE ?_|fail)
 all_goals(conv=>whnf)
 all_goals first|exact aC.same rfl rfl
theorem yh {s:Str}{b:UInt8}:Pu Tryz.prog 269 [.str s,byt b] (i64 (Lib.indexByte s b)):=by
 refine pv Tryz.func269 ?_;repeat' ((conv=>whnf);first|refine cZ.goX aB T0 ?_|exact kQ|(refine bk ?_ ?_<;>intro _<;>try exact exo)|refine stq ?_|refine sP.ext Hw ?_|fail)
 all_goals(conv=>whnf)
 all_goals first|exact aC.same rfl rfl
noncomputable def Ft (l:Str):Nat->Nat:=List.rec (motive:=λ_=>Nat->Nat) (λ_=>0) (λx _ ih c=>Bool.rec (motive:=λ_=>Nat) (ih c) (ih c+1) (Nat.beq x.toNat c)) l
noncomputable def F4 (l:Str):Nat->Nat->Int:=List.rec (motive:=λ_=>Nat->Nat->Int) (λ_ _=>-1) (λx _ ih c k=>Bool.rec (motive:=λ_=>Int) (ih c (k+1)) (Int.ofNat k) (Nat.beq x.toNat c)) l
theorem F5 {x b:UInt8}:Nat.beq x.toNat b.toNat=(x == b):=by
 by_cases h:x=b
 .subst h;simp[Nat.beq_refl]
 .have:x.toNat≠b.toNat:=λe=>h (UInt8.toNat_inj.1 e)
  have e1:(x == b)=false:=beq_eq_false_iff_ne.2 h;rw[e1];cases hb:Nat.beq x.toNat b.toNat with
  | false=>rfl
  | true=>exact absurd (Nat.eq_of_beq_eq_true hb) this
theorem BQ {b:UInt8}:∀ {l:Str},Ft l b.toNat=Lib.countByte l b
 | []=>rfl
 | x::l=>by
  show Bool.rec (motive:=λ_=>Nat) (Ft l b.toNat) (Ft l b.toNat+1) (Nat.beq x.toNat b.toNat)=_;rw[F5,BQ (l:=l)];unfold Lib.countByte;rw[List.count_cons];cases x == b<;>rfl
theorem BX {b:UInt8}:∀ {l:Str}{k:Nat},F4 l b.toNat k=if Lib.indexByte l b = -1 then -1 else Lib.indexByte l b+k
 | [],_=>rfl
 | x::l,k=>by
  show Bool.rec (motive:=λ_=>Int) (F4 l b.toNat (k+1)) (Int.ofNat k) (Nat.beq x.toNat b.toNat)=_;rw[F5,BX (l:=l)];have hge:=Lib.indexByte_ge l b;rw[show Lib.indexByte (x::l) b=if x == b then 0 else if Lib.indexByte l b == -1 then -1 else Lib.indexByte l b+1 from rfl];cases hx:x == b
  .simp only[Bool.false_eq_true,if_false,beq_iff_eq];by_cases h:Lib.indexByte l b = -1
   .simp[h]
   .have:¬Lib.indexByte l b+1 = -1:=om
    simp only[h,this,if_false];omega
  .simp
theorem Ik {s:Str}{b:UInt8}:Pu Tryz.prog 217 [.str s,.str [b]] (i64 (Int.ofNat (Ft s b.toNat))):=by
 rw[BQ];exact Ij
theorem yi {s:Str}{b:UInt8}:Pu Tryz.prog 269 [.str s,.v (.int .u8 (Int.ofNat b.toNat))] (i64 (F4 s b.toNat 0)):=by
 have e:F4 s b.toNat 0=Lib.indexByte s b:=by
  rw[BX];split
  .rename_i h;exact h.symm
  .simp
 rw[e];exact yh
end
end Go.Proofs.YtpgcjpcenaefpaaGreatDoor
