/-
  Contracts of functions over data: bytes and words of rules.
-/
import Derived.Test.YtjjbmnacobnfeaaGreatDoorC0
import Derived.Test.YtjjbmnacobnfeaaGreatDoorAmF
import Derived.Lib.Bytealg
set_option linter.unusedSectionVars false
namespace Go.Proofs.YtjjbmnacobnfeaaGreatDoor
section
open Go Go.Am Classical
set_option maxRecDepth 100000
variable [GT]
def wb (n:Int):Prop:=(65≤n∧n≤90)∨(97≤n∧n≤122)∨(48≤n∧n≤57)∨n=95
def uh (s:Str):Prop:=∀ i (h:i<s.length),wb (s[i].toNat:Int)
def kw:List Str:=[[107,101,101,112],[98,114,101,97,107],[109,117,115,116],[97,116,116,97,99,104],[97,110,121],[115,116,97,114,116],[101,110,100]]
theorem lJ {n:Int}:Pu Tryz.prog 172 [.v (.int .u8 n)] (boo (decide (wb n))):=by
 refine Pu.of_v aA T0 Tryz.func172 rfl rfl rfl ?_
 repeat' ((conv=>whnf)<;>(first|refine aB.go aA T0 ?_|exact True.intro|(refine Br.mk (fun _=>?_) (fun _=>?_)<;>(try(exfalso;omega)))|refine stq ?_))
 all_goals(conv=>whnf)
 all_goals first
  | exact aI.yes (by unfold wb;omega)
  | exact aI.no (by unfold wb;omega)
theorem uD {s:Str}:Pu Tryz.prog 173 [.str s] (boo (decide (s∈kw))):=by
 refine Pu.of_v aA T0 Tryz.func173 rfl rfl rfl ?_
 repeat' ((conv=>whnf)<;>(first|refine aB.go aA T0 ?_|exact True.intro|(refine Br.mk (fun _=>?_) (fun _=>?_)<;>(try(exfalso;omega)))|refine stq ?_))
 all_goals(conv=>whnf)
 all_goals first
  | exact aI.yes (by simp_all [kw])
  | exact aI.no (by simp_all [kw])
theorem pY {s:Str}(hs:s.length≤9223372036854775807):Pu Tryz.prog 142 [.str s] (boo (decide (uh s∧s≠[]∧¬s∈kw))):=by
 refine Pu.of_v aA T0 Tryz.func142 rfl rfl rfl ?_
 repeat' ((conv=>whnf)<;>(first|refine aB.go aA T0 ?_|exact True.intro|(refine Br.mk (fun _=>?_) (fun _=>?_)<;>(try(exfalso;omega)))|refine stq ?_))
 refine aT.by aA T0 (fun k:Nat=>⟨tmp 22 [(0,.str s),(5,i64 s.length),(6,i64 (k:Int))],⟨0,[]⟩⟩) (fun k=>k≤s.length∧∀ i (h:i<s.length),i<k→wb (s[i].toNat:Int)) (fun k=>s.length-k) 0 ⟨by omega,fun _ _ h=>by omega⟩ ?_ ?_
 ·exact Lf.of2 [] [] enA bxA rfl rfl
 intro k ⟨h1,h2⟩
 repeat' ((conv=>whnf)<;>(first|refine aB.go aA T0 ?_|exact True.intro|(refine Br.mk (fun _=>?_) (fun _=>?_)<;>(try(exfalso;omega)))|refine stq ?_|refine Cll.dec (lJ) (fun _=>?_) (fun _=>?_)|refine aG.dec (lJ) (fun _=>?_) (fun _=>?_)|refine Cll.dec (uD) (fun _=>?_) (fun _=>?_)|refine aG.dec (uD) (fun _=>?_) (fun _=>?_)))
 all_goals(conv=>whnf)
 all_goals first
  | exact aI.no (fun hc=>absurd (hc.1 k (by omega)) (by assumption))
  | exact aI.no (fun hc=>hc.2.1 (by assumption))
  | exact aI.no (fun hc=>hc.2.2 (by assumption))
  | exact aI.yes ⟨bn (by omega) h2,by assumption,by assumption⟩
  | skip
 refine⟨k+1,⟨by omega,ay (by omega) h2 (by assumption)⟩,by omega,?_⟩
 exact Lf.of2 [] [] enA bxA rfl rfl
def wbN (k:Nat):Bool:=(Nat.ble 65 k&&Nat.ble k 90) || (Nat.ble 97 k&&Nat.ble k 122) || (Nat.ble 48 k&&Nat.ble k 57) || Nat.beq k 95
theorem rm {k:Nat}:wbN k=true↔wb (k:Int):=by
 simp only[wbN,wb,Bool.or_eq_true,Bool.and_eq_true,Nat.ble_eq,Nat.beq_eq]
 omega
def C1:Str→Bool
 | []=>true
 | b::s=>wbN b.toNat&&C1 s
theorem ui:∀ {s:Str},C1 s=true↔uh s
 | []=>⟨fun _ i h=>by simp at h,fun _=>rfl⟩
 | b::s=>by
  simp only[C1,Bool.and_eq_true,rm,ui (s:=s)]
  constructor
  ·intro h i hi
   cases i with
   | zero=>exact h.1
   | succ i=>exact h.2 i (by simpa using hi)
  ·intro h
   exact⟨h 0 (by simp),fun i hi=>h (i+1) (by simpa using hi)⟩
def yH (s:Str):List Str→Bool
 | []=>false
 | t::l=>gw s t || yH s l
theorem pT {s:Str}:∀ {l:List Str},yH s l=true↔s∈l
 | []=>by simp[yH]
 | t::l=>by simp[yH,cM,pT (l:=l)]
def pP (s:Str):Bool:=C1 s&&(match s with|[]=>false|_=>true)&&!yH s kw
theorem m3 {s:Str}:pP s=true↔(uh s∧s≠[]∧¬s∈kw):=by
 simp only[pP,Bool.and_eq_true,ui,Bool.not_eq_true',←Bool.not_eq_true,pT]
 cases s<;>simp
theorem u3 {k:Nat}:Pu Tryz.prog 172 [.v (.int .u8 (k:Int))] (boo (wbN k)):=by
 have:=lJ (n:=(k:Int))
 rwa [show decide (wb (k:Int))=wbN k from by
  by_cases hb:wbN k=true
  ·rw[hb];exact decide_eq_true (rm.1 hb)
  ·rw[Bool.not_eq_true] at hb;rw[hb];exact decide_eq_false (fun h=>by rw[rm.2 h] at hb;cases hb)] at this
theorem AJ {s:Str}(hs:s.length≤1000):Pu Tryz.prog 142 [.str s] (boo (pP s)):=by
 have:=pY (s:=s) (by omega)
 rwa [show decide (uh s∧s≠[]∧¬s∈kw)=pP s from by
  by_cases hb:pP s=true
  ·rw[hb];exact decide_eq_true (m3.1 hb)
  ·rw[Bool.not_eq_true] at hb;rw[hb];exact decide_eq_false (fun h=>by rw[m3.2 h] at hb;cases hb)] at this
end
section
open Go Go.Am Classical
set_option maxRecDepth 100000
variable [GT]
theorem DJ {b:UInt8}:(b.toNat:Int).toNat.toUInt8=b:=by
 simp
theorem Ci {s:Str}{b:UInt8}{h:aC}:yp Tryz.prog 215 [.str s,byt b] h (i64 (Lib.countByte s b:Nat)):=by
 intro c vs R hvs
 obtain⟨y1,ys,rfl,v1,hvs⟩:=hvs.inv
 obtain⟨y2,ys,rfl,v2,hvs⟩:=hvs.inv
 simp only[VS] at hvs
 subst hvs
 simp only[V] at v1 v2
 obtain⟨_,rfl⟩:=v2
 subst v1
 refine⟨.int .i64 (Lib.countByte s b:Nat),?_,by simp[V,dA]⟩
 show(callFunc 215 #[.string ⟨s.toArray⟩,.int .u8 (b.toNat:Int)]).run Tryz.prog c.w=_
 rw[run_callFunc_extern Tryz.func215 (by kernel_rfl) (by kernel_rfl) (by kernel_rfl) (e:=Extern.BytealgCount.count) (by kernel_rfl),Lib.run_countString,DJ]
 rfl
theorem CU {s:Str}{b:UInt8}{h:aC}:yp Tryz.prog 245 [.str s,byt b] h (i64 (Lib.indexByte s b)):=by
 intro c vs R hvs
 obtain⟨y1,ys,rfl,v1,hvs⟩:=hvs.inv
 obtain⟨y2,ys,rfl,v2,hvs⟩:=hvs.inv
 simp only[VS] at hvs
 subst hvs
 simp only[V] at v1 v2
 obtain⟨_,rfl⟩:=v2
 subst v1
 refine⟨.int .i64 (Lib.indexByte s b),?_,by simp[V,dA]⟩
 show(callFunc 245 #[.string ⟨s.toArray⟩,.int .u8 (b.toNat:Int)]).run Tryz.prog c.w=_
 rw[run_callFunc_extern Tryz.func245 (by kernel_rfl) (by kernel_rfl) (by kernel_rfl) (e:=Extern.BytealgIndexByte.indexByte) (by kernel_rfl),Lib.run_indexByteString,DJ]
 rfl
theorem DB {s:Str}{b:UInt8}:Pu Tryz.prog 181 [.str s,.str [b]] (i64 (Lib.countByte s b:Nat)):=by
 refine Pu.of_v aA T0 Tryz.func181 rfl rfl rfl ?_
 have hl1:([b]:Str).length=1:=rfl
 repeat' ((conv=>whnf)<;>(first|refine wF.mk (by simp) (by simp) ?_|refine aB.goX aA T0 ?_|refine aB.go aA T0 ?_|exact True.intro|(refine Br.mk (fun _=>?_) (fun _=>?_)<;>(try(exfalso;omega)))|refine stq ?_|refine qY.ext Ci ?_|fail))
 all_goals(conv=>whnf)
 all_goals first|exact aI.same rfl rfl
theorem ut {s:Str}{b:UInt8}:Pu Tryz.prog 233 [.str s,byt b] (i64 (Lib.indexByte s b)):=by
 refine Pu.of_v aA T0 Tryz.func233 rfl rfl rfl ?_
 repeat' ((conv=>whnf)<;>(first|refine aB.goX aA T0 ?_|refine aB.go aA T0 ?_|exact True.intro|(refine Br.mk (fun _=>?_) (fun _=>?_)<;>(try(exfalso;omega)))|refine stq ?_|refine qY.ext CU ?_|fail))
 all_goals(conv=>whnf)
 all_goals first|exact aI.same rfl rfl
noncomputable def At (l:Str):Nat→Nat:=List.rec (motive:=fun _=>Nat→Nat) (fun _=>0) (fun x _ ih c=>Bool.rec (motive:=fun _=>Nat) (ih c) (ih c+1) (Nat.beq x.toNat c)) l
noncomputable def A8 (l:Str):Nat→Nat→Int:=List.rec (motive:=fun _=>Nat→Nat→Int) (fun _ _=>-1) (fun x _ ih c k=>Bool.rec (motive:=fun _=>Int) (ih c (k+1)) (Int.ofNat k) (Nat.beq x.toNat c)) l
theorem A9 {x b:UInt8}:Nat.beq x.toNat b.toNat=(x == b):=by
 by_cases h:x=b
 ·subst h;simp[Nat.beq_refl]
 ·have:x.toNat≠b.toNat:=fun e=>h (UInt8.toNat_inj.1 e)
  have e1:(x == b)=false:=beq_eq_false_iff_ne.2 h
  rw[e1]
  cases hb:Nat.beq x.toNat b.toNat with
  | false=>rfl
  | true=>exact absurd (Nat.eq_of_beq_eq_true hb) this
theorem xK {b:UInt8}:∀ {l:Str},At l b.toNat=Lib.countByte l b
 | []=>rfl
 | x::l=>by
  show Bool.rec (motive:=fun _=>Nat) (At l b.toNat) (At l b.toNat+1) (Nat.beq x.toNat b.toNat)=_
  rw[A9,xK (l:=l)]
  unfold Lib.countByte
  rw[List.count_cons]
  cases x == b<;>rfl
theorem xU {b:UInt8}:∀ {l:Str}{k:Nat},A8 l b.toNat k=if Lib.indexByte l b = -1 then -1 else Lib.indexByte l b+k
 | [],_=>rfl
 | x::l,k=>by
  show Bool.rec (motive:=fun _=>Int) (A8 l b.toNat (k+1)) (Int.ofNat k) (Nat.beq x.toNat b.toNat)=_
  rw[A9,xU (l:=l)]
  have hge:=Lib.indexByte_ge l b
  rw[show Lib.indexByte (x::l) b=if x == b then 0 else if Lib.indexByte l b == -1 then -1 else Lib.indexByte l b+1 from rfl]
  cases hx:x == b
  ·simp only[Bool.false_eq_true,if_false,beq_iff_eq]
   by_cases h:Lib.indexByte l b = -1
   ·simp[h]
   ·have:¬Lib.indexByte l b+1 = -1:=by omega
    simp only[h,this,if_false]
    omega
  ·simp
theorem DC {s:Str}{b:UInt8}:Pu Tryz.prog 181 [.str s,.str [b]] (i64 (Int.ofNat (At s b.toNat))):=by
 rw[xK]
 exact DB
theorem uu {s:Str}{b:UInt8}:Pu Tryz.prog 233 [.str s,.v (.int .u8 (Int.ofNat b.toNat))] (i64 (A8 s b.toNat 0)):=by
 have e:A8 s b.toNat 0=Lib.indexByte s b:=by
  rw[xU]
  split
  ·rename_i h;exact h.symm
  ·simp
 rw[e]
 exact ut
end
end Go.Proofs.YtjjbmnacobnfeaaGreatDoor
