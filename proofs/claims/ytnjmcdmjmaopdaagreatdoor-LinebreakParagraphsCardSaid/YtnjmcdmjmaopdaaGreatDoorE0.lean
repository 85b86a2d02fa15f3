/-
  Contracts of functions over data: bytes and words of rules.
-/
import Derived.Test.YtnjmcdmjmaopdaaGreatDoorC0
import Derived.Test.YtnjmcdmjmaopdaaGreatDoorAmF
import Derived.Lib.Bytealg
set_option linter.unusedSectionVars false
namespace Go.Proofs.YtnjmcdmjmaopdaaGreatDoor
section
open Go Go.Am Classical
set_option maxRecDepth 100000
variable [GT]
def wb (n:Int):Prop:=(65≤n∧n≤90)∨(97≤n∧n≤122)∨(48≤n∧n≤57)∨n=95
def vt (s:Str):Prop:=∀ i (h:i<s.length),wb (s[i].toNat:Int)
def kw:List Str:=[[107,101,101,112],[98,114,101,97,107],[109,117,115,116],[97,116,116,97,99,104],[97,110,121],[115,116,97,114,116],[101,110,100]]
theorem lc {n:Int}:Pu Tryz.prog 152 [.v (.int .u8 n)] (boo (decide (wb n))):=by
 refine Pu.of_v aA T0 Tryz.func152 rfl rfl rfl ?_;repeat' ((conv=>whnf)<;>(first|refine aB.go aA T0 ?_|exact kQ|(refine Br.mk (fun _=>?_) (fun _=>?_)<;>(try(exfalso;omega)))|refine stq ?_))
 all_goals(conv=>whnf)
 all_goals first
  | exact aH.yes (by unfold wb;omega)
  | exact aH.no (by unfold wb;omega)
theorem vC {s:Str}:Pu Tryz.prog 153 [.str s] (boo (decide (s∈kw))):=by
 refine Pu.of_v aA T0 Tryz.func153 rfl rfl rfl ?_;repeat' ((conv=>whnf)<;>(first|refine aB.go aA T0 ?_|exact kQ|(refine Br.mk (fun _=>?_) (fun _=>?_)<;>(try(exfalso;omega)))|refine stq ?_))
 all_goals(conv=>whnf)
 all_goals first
  | exact aH.yes (by simp_all [kw])
  | exact aH.no (by simp_all [kw])
theorem qI {s:Str}(hs:s.length≤9223372036854775807):Pu Tryz.prog 122 [.str s] (boo (decide (vt s∧s≠[]∧¬s∈kw))):=by
 refine Pu.of_v aA T0 Tryz.func122 rfl rfl rfl ?_;repeat' ((conv=>whnf)<;>(first|refine aB.go aA T0 ?_|exact kQ|(refine Br.mk (fun _=>?_) (fun _=>?_)<;>(try(exfalso;omega)))|refine stq ?_))
 refine aU.by aA T0 (fun k:Nat=>⟨tmp 22 [(0,.str s),(5,i64 s.length),(6,i64 (k:Int))],⟨0,[]⟩⟩) (fun k=>k≤s.length∧∀ i (h:i<s.length),i<k→wb (s[i].toNat:Int)) (fun k=>s.length-k) 0 ⟨by omega,fun _ _ h=>by omega⟩ ?_ ?_
 ·exact Lf.of2 [] [] enA bxA rfl rfl
 intro k ⟨h1,h2⟩;repeat' ((conv=>whnf)<;>(first|refine aB.go aA T0 ?_|exact kQ|(refine Br.mk (fun _=>?_) (fun _=>?_)<;>(try(exfalso;omega)))|refine stq ?_|refine Cll.dec (lc) (fun _=>?_) (fun _=>?_)|refine aN.dec (lc) (fun _=>?_) (fun _=>?_)|refine Cll.dec (vC) (fun _=>?_) (fun _=>?_)|refine aN.dec (vC) (fun _=>?_) (fun _=>?_)))
 all_goals(conv=>whnf)
 all_goals first
  | exact aH.no (fun hc=>absurd (hc.1 k (by omega)) (by assumption))
  | exact aH.no (fun hc=>hc.2.1 (by assumption))
  | exact aH.no (fun hc=>hc.2.2 (by assumption))
  | exact aH.yes ⟨cA (by omega) h2,by assumption,by assumption⟩
  | skip
 refine⟨k+1,⟨by omega,ay (by omega) h2 (by assumption)⟩,by omega,?_⟩;exact Lf.of2 [] [] enA bxA rfl rfl
def wbN (k:Nat):Bool:=(Nat.ble 65 k&&Nat.ble k 90) || (Nat.ble 97 k&&Nat.ble k 122) || (Nat.ble 48 k&&Nat.ble k 57) || Nat.beq k 95
theorem sb {k:Nat}:wbN k=true↔wb (k:Int):=by
 simp only[wbN,wb,kN,kC,Nat.ble_eq,Nat.beq_eq];omega
def E0:Str→Bool
 | []=>true
 | b::s=>wbN b.toNat&&E0 s
theorem vu:∀ {s:Str},E0 s=true↔vt s
 | []=>⟨fun _ i h=>by simp at h,fun _=>rfl⟩
 | b::s=>by
  simp only[E0,kC,sb,vu (s:=s)];constructor
  ·intro h i hi;cases i with
   | zero=>exact h.1
   | succ i=>exact h.2 i (by simpa using hi)
  ·intro h;exact⟨h 0 (by simp),fun i hi=>h (i+1) (by simpa using hi)⟩
def zk (s:Str):List Str→Bool
 | []=>false
 | t::l=>iC s t || zk s l
theorem qC {s:Str}:∀ {l:List Str},zk s l=true↔s∈l
 | []=>by simp[zk]
 | t::l=>by simp[zk,cV,qC (l:=l)]
def p9 (s:Str):Bool:=E0 s&&(match s with|[]=>false|_=>true)&&!zk s kw
theorem nO {s:Str}:p9 s=true↔(vt s∧s≠[]∧¬s∈kw):=by
 simp only[p9,kC,vu,Bool.not_eq_true',←Bool.not_eq_true,qC];cases s<;>simp
theorem wH {k:Nat}:Pu Tryz.prog 152 [.v (.int .u8 (k:Int))] (boo (wbN k)):=by
 have:=lc (n:=(k:Int))
 rwa [show decide (wb (k:Int))=wbN k from by
  by_cases hb:wbN k=true
  ·rw[hb];exact decide_eq_true (sb.1 hb)
  ·rw[Bool.not_eq_true] at hb;rw[hb];exact decide_eq_false (fun h=>by rw[sb.2 h] at hb;cases hb)] at this
theorem B0 {s:Str}(hs:s.length≤1000):Pu Tryz.prog 122 [.str s] (boo (p9 s)):=by
 have:=qI (s:=s) (by omega)
 rwa [show decide (vt s∧s≠[]∧¬s∈kw)=p9 s from by
  by_cases hb:p9 s=true
  ·rw[hb];exact decide_eq_true (nO.1 hb)
  ·rw[Bool.not_eq_true] at hb;rw[hb];exact decide_eq_false (fun h=>by rw[nO.2 h] at hb;cases hb)] at this
end
section
open Go Go.Am Classical
set_option maxRecDepth 100000
variable [GT]
theorem FF {b:UInt8}:(b.toNat:Int).toNat.toUInt8=b:=by
 simp
theorem El {s:Str}{b:UInt8}{h:aC}:AR Tryz.prog 198 [.str s,byt b] h (i64 (Lib.countByte s b:Nat)):=by
 intro c vs R hvs;obtain⟨y1,ys,rfl,v1,hvs⟩:=hvs.inv;obtain⟨y2,ys,rfl,v2,hvs⟩:=hvs.inv;simp only[VS] at hvs;subst hvs;simp only[V] at v1 v2;obtain⟨_,rfl⟩:=v2;subst v1;refine⟨.int .i64 (Lib.countByte s b:Nat),?_,by simp[V,dO]⟩;show(callFunc 198 #[.string ⟨s.toArray⟩,.int .u8 (b.toNat:Int)]).run Tryz.prog c.w=_;rw[run_callFunc_extern Tryz.func198 (by kernel_rfl) (by kernel_rfl) (by kernel_rfl) (e:=Extern.BytealgCount.count) (by kernel_rfl),Lib.run_countString,FF];rfl
theorem EU {s:Str}{b:UInt8}{h:aC}:AR Tryz.prog 232 [.str s,byt b] h (i64 (Lib.indexByte s b)):=by
 intro c vs R hvs;obtain⟨y1,ys,rfl,v1,hvs⟩:=hvs.inv;obtain⟨y2,ys,rfl,v2,hvs⟩:=hvs.inv;simp only[VS] at hvs;subst hvs;simp only[V] at v1 v2;obtain⟨_,rfl⟩:=v2;subst v1;refine⟨.int .i64 (Lib.indexByte s b),?_,by simp[V,dO]⟩;show(callFunc 232 #[.string ⟨s.toArray⟩,.int .u8 (b.toNat:Int)]).run Tryz.prog c.w=_;rw[run_callFunc_extern Tryz.func232 (by kernel_rfl) (by kernel_rfl) (by kernel_rfl) (e:=Extern.BytealgIndexByte.indexByte) (by kernel_rfl),Lib.run_indexByteString,FF];rfl
theorem FA {s:Str}{b:UInt8}:Pu Tryz.prog 160 [.str s,.str [b]] (i64 (Lib.countByte s b:Nat)):=by
 refine Pu.of_v aA T0 Tryz.func160 rfl rfl rfl ?_;have hl1:([b]:Str).length=1:=rfl;repeat' ((conv=>whnf)<;>(first|refine xe.mk (by simp) (by simp) ?_|refine aB.goX aA T0 ?_|refine aB.go aA T0 ?_|exact kQ|(refine Br.mk (fun _=>?_) (fun _=>?_)<;>(try(exfalso;omega)))|refine stq ?_|refine rG.ext El ?_|fail))
 all_goals(conv=>whnf)
 all_goals first|exact aH.same rfl rfl
theorem v9 {s:Str}{b:UInt8}:Pu Tryz.prog 218 [.str s,byt b] (i64 (Lib.indexByte s b)):=by
 refine Pu.of_v aA T0 Tryz.func218 rfl rfl rfl ?_;repeat' ((conv=>whnf)<;>(first|refine aB.goX aA T0 ?_|refine aB.go aA T0 ?_|exact kQ|(refine Br.mk (fun _=>?_) (fun _=>?_)<;>(try(exfalso;omega)))|refine stq ?_|refine rG.ext EU ?_|fail))
 all_goals(conv=>whnf)
 all_goals first|exact aH.same rfl rfl
noncomputable def Cj (l:Str):Nat→Nat:=List.rec (motive:=fun _=>Nat→Nat) (fun _=>0) (fun x _ ih c=>Bool.rec (motive:=fun _=>Nat) (ih c) (ih c+1) (Nat.beq x.toNat c)) l
noncomputable def Cw (l:Str):Nat→Nat→Int:=List.rec (motive:=fun _=>Nat→Nat→Int) (fun _ _=>-1) (fun x _ ih c k=>Bool.rec (motive:=fun _=>Int) (ih c (k+1)) (Int.ofNat k) (Nat.beq x.toNat c)) l
theorem Cx {x b:UInt8}:Nat.beq x.toNat b.toNat=(x == b):=by
 by_cases h:x=b
 ·subst h;simp[Nat.beq_refl]
 ·have:x.toNat≠b.toNat:=fun e=>h (UInt8.toNat_inj.1 e)
  have e1:(x == b)=false:=beq_eq_false_iff_ne.2 h;rw[e1];cases hb:Nat.beq x.toNat b.toNat with
  | false=>rfl
  | true=>exact absurd (Nat.eq_of_beq_eq_true hb) this
theorem yo {b:UInt8}:∀ {l:Str},Cj l b.toNat=Lib.countByte l b
 | []=>rfl
 | x::l=>by
  show Bool.rec (motive:=fun _=>Nat) (Cj l b.toNat) (Cj l b.toNat+1) (Nat.beq x.toNat b.toNat)=_;rw[Cx,yo (l:=l)];unfold Lib.countByte;rw[List.count_cons];cases x == b<;>rfl
theorem yx {b:UInt8}:∀ {l:Str}{k:Nat},Cw l b.toNat k=if Lib.indexByte l b = -1 then -1 else Lib.indexByte l b+k
 | [],_=>rfl
 | x::l,k=>by
  show Bool.rec (motive:=fun _=>Int) (Cw l b.toNat (k+1)) (Int.ofNat k) (Nat.beq x.toNat b.toNat)=_;rw[Cx,yx (l:=l)];have hge:=Lib.indexByte_ge l b;rw[show Lib.indexByte (x::l) b=if x == b then 0 else if Lib.indexByte l b == -1 then -1 else Lib.indexByte l b+1 from rfl];cases hx:x == b
  ·simp only[Bool.false_eq_true,if_false,beq_iff_eq];by_cases h:Lib.indexByte l b = -1
   ·simp[h]
   ·have:¬Lib.indexByte l b+1 = -1:=by omega
    simp only[h,this,if_false];omega
  ·simp
theorem FB {s:Str}{b:UInt8}:Pu Tryz.prog 160 [.str s,.str [b]] (i64 (Int.ofNat (Cj s b.toNat))):=by
 rw[yo];exact FA
theorem wA {s:Str}{b:UInt8}:Pu Tryz.prog 218 [.str s,.v (.int .u8 (Int.ofNat b.toNat))] (i64 (Cw s b.toNat 0)):=by
 have e:Cw s b.toNat 0=Lib.indexByte s b:=by
  rw[yx];split
  ·rename_i h;exact h.symm
  ·simp
 rw[e];exact v9
end
end Go.Proofs.YtnjmcdmjmaopdaaGreatDoor
