/-
  Contracts of functions over data: bytes and words of rules.
-/
import Derived.Test.YtbjngeioomjklaaGreatDoorC0
import Derived.Test.YtbjngeioomjklaaGreatDoorAmF
import Derived.Lib.Bytealg
namespace Go.Proofs.YtbjngeioomjklaaGreatDoor
open Go Go.Am Classical
set_option maxRecDepth 100000
set_option linter.unusedSectionVars false
variable [GT]
def wb (n:Int):Prop:=(65≤n∧n≤90)∨(97≤n∧n≤122)∨(48≤n∧n≤57)∨n=95
def allW (s:Str):Prop:=∀ i (h:i < s.length),wb (s[i].toNat:Int)
def kw:List Str:=[[107,101,101,112],[98,114,101,97,107],[109,117,115,116],[97,116,116,97,99,104],[97,110,121],[115,116,97,114,116],[101,110,100]]
theorem wordByte_c {n:Int}:Pu Tryz.prog 102 [.v (.int .u8 n)] (boo (decide (wb n))):=by
 refine Pu.of_v mixed T0 Tryz.func102 rfl rfl rfl ?_
 repeat' ((conv=>whnf) <;> (first|refine SeqV.go mixed T0 ?_|exact True.intro|(refine Br.mk (fun _=>?_) (fun _=>?_) <;> (try (exfalso;omega)))|refine stq ?_))
 all_goals (conv=>whnf)
 all_goals first
  | exact RetV.yes (by unfold wb;omega)
  | exact RetV.no (by unfold wb;omega)
theorem isWord_c {s:Str}:Pu Tryz.prog 103 [.str s] (boo (decide (s ∈ kw))):=by
 refine Pu.of_v mixed T0 Tryz.func103 rfl rfl rfl ?_
 repeat' ((conv=>whnf) <;> (first|refine SeqV.go mixed T0 ?_|exact True.intro|(refine Br.mk (fun _=>?_) (fun _=>?_) <;> (try (exfalso;omega)))|refine stq ?_))
 all_goals (conv=>whnf)
 all_goals first
  | exact RetV.yes (by simp_all [kw])
  | exact RetV.no (by simp_all [kw])
theorem isName_c {s:Str}(hs:s.length≤9223372036854775807):Pu Tryz.prog 75 [.str s] (boo (decide (allW s∧s≠[]∧¬ s ∈ kw))):=by
 refine Pu.of_v mixed T0 Tryz.func75 rfl rfl rfl ?_
 repeat' ((conv=>whnf) <;> (first|refine SeqV.go mixed T0 ?_|exact True.intro|(refine Br.mk (fun _=>?_) (fun _=>?_) <;> (try (exfalso;omega)))|refine stq ?_))
 refine LoopV.by mixed T0 (fun k:Nat=>⟨tmp 22 [(0,.str s),(5,i64 s.length),(6,i64 (k:Int))],⟨0,[]⟩⟩) (fun k=>k≤s.length∧∀ i (h:i < s.length),i < k→wb (s[i].toNat:Int)) (fun k=>s.length - k) 0 ⟨by omega,fun _ _ h=>by omega⟩ ?_ ?_
 ·exact Lf.of2 [] [] enA bxA rfl rfl
 intro k ⟨h1,h2⟩
 repeat' ((conv=>whnf) <;> (first|refine SeqV.go mixed T0 ?_|exact True.intro|(refine Br.mk (fun _=>?_) (fun _=>?_) <;> (try (exfalso;omega)))|refine stq ?_|refine Cll.dec (wordByte_c) (fun _=>?_) (fun _=>?_)|refine Cal0.dec (wordByte_c) (fun _=>?_) (fun _=>?_)|refine Cll.dec (isWord_c) (fun _=>?_) (fun _=>?_)|refine Cal0.dec (isWord_c) (fun _=>?_) (fun _=>?_)))
 all_goals (conv=>whnf)
 all_goals first
  | exact RetV.no (fun hc=>absurd (hc.1 k (by omega)) (by assumption))
  | exact RetV.no (fun hc=>hc.2.1 (by assumption))
  | exact RetV.no (fun hc=>hc.2.2 (by assumption))
  | exact RetV.yes ⟨up_all (by omega) h2,by assumption,by assumption⟩
  | skip
 refine ⟨k+1,⟨by omega,up_succ (by omega) h2 (by assumption)⟩,by omega,?_⟩
 exact Lf.of2 [] [] enA bxA rfl rfl
def wbN (k:Nat):Bool:=(Nat.ble 65 k && Nat.ble k 90) || (Nat.ble 97 k && Nat.ble k 122) || (Nat.ble 48 k && Nat.ble k 57) || Nat.beq k 95
theorem wbN_iff {k:Nat}:wbN k=true↔wb (k:Int):=by
 simp only [wbN,wb,Bool.or_eq_true,Bool.and_eq_true,Nat.ble_eq,Nat.beq_eq]
 omega
def allN:Str→Bool
 | []=>true
 | b :: s=>wbN b.toNat && allN s
theorem allN_iff:∀ {s:Str},allN s=true↔allW s
 | []=>⟨fun _ i h=>by simp at h,fun _=>rfl⟩
 | b :: s=>by
  simp only [allN,Bool.and_eq_true,wbN_iff,allN_iff (s:=s)]
  constructor
  ·intro h i hi
   cases i with
   | zero=>exact h.1
   | succ i=>exact h.2 i (by simpa using hi)
  ·intro h
   exact ⟨h 0 (by simp),fun i hi=>h (i+1) (by simpa using hi)⟩
def memB (s:Str):List Str→Bool
 | []=>false
 | t :: l=>strB s t || memB s l
theorem memB_iff {s:Str}:∀ {l:List Str},memB s l=true↔s ∈ l
 | []=>by simp [memB]
 | t :: l=>by simp [memB,strB_iff,memB_iff (l:=l)]
def nameB (s:Str):Bool:=allN s && (match s with|[]=>false|_=>true) && !memB s kw
theorem nameB_iff {s:Str}:nameB s=true↔(allW s∧s≠[]∧¬ s ∈ kw):=by
 simp only [nameB,Bool.and_eq_true,allN_iff,Bool.not_eq_true',← Bool.not_eq_true,memB_iff]
 cases s <;> simp
theorem wordByte_b {k:Nat}:Pu Tryz.prog 102 [.v (.int .u8 (k:Int))] (boo (wbN k)):=by
 have:=wordByte_c (n:=(k:Int))
 rwa [show decide (wb (k:Int))=wbN k from by
  by_cases hb:wbN k=true
  ·rw [hb];exact decide_eq_true (wbN_iff.1 hb)
  ·rw [Bool.not_eq_true] at hb;rw [hb];exact decide_eq_false (fun h=>by rw [wbN_iff.2 h] at hb;cases hb)] at this
theorem isName_b {s:Str}(hs:s.length≤1000):Pu Tryz.prog 75 [.str s] (boo (nameB s)):=by
 have:=isName_c (s:=s) (by omega)
 rwa [show decide (allW s∧s≠[]∧¬ s ∈ kw)=nameB s from by
  by_cases hb:nameB s=true
  ·rw [hb];exact decide_eq_true (nameB_iff.1 hb)
  ·rw [Bool.not_eq_true] at hb;rw [hb];exact decide_eq_false (fun h=>by rw [nameB_iff.2 h] at hb;cases hb)] at this
end Go.Proofs.YtbjngeioomjklaaGreatDoor
namespace Go.Proofs.YtbjngeioomjklaaGreatDoor
open Go Go.Am Classical
set_option maxRecDepth 100000
set_option linter.unusedSectionVars false
variable [GT]
theorem u8_of {b:UInt8}:(b.toNat:Int).toNat.toUInt8=b:=by
 simp
theorem count_x {s:Str}{b:UInt8}{h:Heap}:ExtW Tryz.prog 141 [.str s,byt b] h (i64 (Lib.countByte s b:Nat)):=by
 intro c vs R hvs
 obtain ⟨y1,ys,rfl,v1,hvs⟩:=hvs.inv
 obtain ⟨y2,ys,rfl,v2,hvs⟩:=hvs.inv
 simp only [VS] at hvs
 subst hvs
 simp only [V] at v1 v2
 obtain ⟨_,rfl⟩:=v2
 subst v1
 refine ⟨.int .i64 (Lib.countByte s b:Nat),?_,by simp [V,free]⟩
 show (callFunc 141 #[.string ⟨s.toArray⟩,.int .u8 (b.toNat:Int)]).run Tryz.prog c.w=_
 rw [run_callFunc_extern Tryz.func141 (by kernel_rfl) (by kernel_rfl) (by kernel_rfl) (e:=Extern.BytealgCount.count) (by kernel_rfl),Lib.run_countString,u8_of]
 rfl
theorem index_x {s:Str}{b:UInt8}{h:Heap}:ExtW Tryz.prog 181 [.str s,byt b] h (i64 (Lib.indexByte s b)):=by
 intro c vs R hvs
 obtain ⟨y1,ys,rfl,v1,hvs⟩:=hvs.inv
 obtain ⟨y2,ys,rfl,v2,hvs⟩:=hvs.inv
 simp only [VS] at hvs
 subst hvs
 simp only [V] at v1 v2
 obtain ⟨_,rfl⟩:=v2
 subst v1
 refine ⟨.int .i64 (Lib.indexByte s b),?_,by simp [V,free]⟩
 show (callFunc 181 #[.string ⟨s.toArray⟩,.int .u8 (b.toNat:Int)]).run Tryz.prog c.w=_
 rw [run_callFunc_extern Tryz.func181 (by kernel_rfl) (by kernel_rfl) (by kernel_rfl) (e:=Extern.BytealgIndexByte.indexByte) (by kernel_rfl),Lib.run_indexByteString,u8_of]
 rfl
theorem Count_c {s:Str}{b:UInt8}:Pu Tryz.prog 105 [.str s,.str [b]] (i64 (Lib.countByte s b:Nat)):=by
 refine Pu.of_v mixed T0 Tryz.func105 rfl rfl rfl ?_
 have hl1:([b]:Str).length=1:=rfl
 repeat' ((conv=>whnf) <;> (first|refine IdxS.mk (by simp) (by simp) ?_|refine SeqV.goX mixed T0 ?_|refine SeqV.go mixed T0 ?_|exact True.intro|(refine Br.mk (fun _=>?_) (fun _=>?_) <;> (try (exfalso;omega)))|refine stq ?_|refine CllX.ext count_x ?_|fail))
 all_goals (conv=>whnf)
 all_goals first|exact RetV.same rfl rfl
theorem IndexByte_c {s:Str}{b:UInt8}:Pu Tryz.prog 165 [.str s,byt b] (i64 (Lib.indexByte s b)):=by
 refine Pu.of_v mixed T0 Tryz.func165 rfl rfl rfl ?_
 repeat' ((conv=>whnf) <;> (first|refine SeqV.goX mixed T0 ?_|refine SeqV.go mixed T0 ?_|exact True.intro|(refine Br.mk (fun _=>?_) (fun _=>?_) <;> (try (exfalso;omega)))|refine stq ?_|refine CllX.ext index_x ?_|fail))
 all_goals (conv=>whnf)
 all_goals first|exact RetV.same rfl rfl
noncomputable def cntN (l:Str):Nat→Nat:=List.rec (motive:=fun _=>Nat→Nat) (fun _=>0) (fun x _ ih c=>Bool.rec (motive:=fun _=>Nat) (ih c) (ih c+1) (Nat.beq x.toNat c)) l
noncomputable def bixN (l:Str):Nat→Nat→Int:=List.rec (motive:=fun _=>Nat→Nat→Int) (fun _ _=>-1) (fun x _ ih c k=>Bool.rec (motive:=fun _=>Int) (ih c (k+1)) (Int.ofNat k) (Nat.beq x.toNat c)) l
theorem beq_u8 {x b:UInt8}:Nat.beq x.toNat b.toNat=(x == b):=by
 by_cases h:x=b
 ·subst h;simp [Nat.beq_refl]
 ·have:x.toNat≠b.toNat:=fun e=>h (UInt8.toNat_inj.1 e)
  have e1:(x == b)=false:=beq_eq_false_iff_ne.2 h
  rw [e1]
  cases hb:Nat.beq x.toNat b.toNat with
  | false=>rfl
  | true=>exact absurd (Nat.eq_of_beq_eq_true hb) this
theorem cntN_eq {b:UInt8}:∀ {l:Str},cntN l b.toNat=Lib.countByte l b
 | []=>rfl
 | x :: l=>by
  show Bool.rec (motive:=fun _=>Nat) (cntN l b.toNat) (cntN l b.toNat+1) (Nat.beq x.toNat b.toNat)=_
  rw [beq_u8,cntN_eq (l:=l)]
  unfold Lib.countByte
  rw [List.count_cons]
  cases x == b <;> rfl
theorem bixN_eq {b:UInt8}:∀ {l:Str}{k:Nat},bixN l b.toNat k=if Lib.indexByte l b = -1 then -1 else Lib.indexByte l b+k
 | [],_=>rfl
 | x :: l,k=>by
  show Bool.rec (motive:=fun _=>Int) (bixN l b.toNat (k+1)) (Int.ofNat k) (Nat.beq x.toNat b.toNat)=_
  rw [beq_u8,bixN_eq (l:=l)]
  have hge:=Lib.indexByte_ge l b
  rw [show Lib.indexByte (x :: l) b=if x == b then 0 else if Lib.indexByte l b == -1 then -1 else Lib.indexByte l b+1 from rfl]
  cases hx:x == b
  ·simp only [Bool.false_eq_true,if_false,beq_iff_eq]
   by_cases h:Lib.indexByte l b = -1
   ·simp [h]
   ·have:¬ Lib.indexByte l b+1 = -1:=by omega
    simp only [h,this,if_false]
    omega
  ·simp
theorem Count_b {s:Str}{b:UInt8}:Pu Tryz.prog 105 [.str s,.str [b]] (i64 (Int.ofNat (cntN s b.toNat))):=by
 rw [cntN_eq]
 exact Count_c
theorem IndexByte_b {s:Str}{b:UInt8}:Pu Tryz.prog 165 [.str s,.v (.int .u8 (Int.ofNat b.toNat))] (i64 (bixN s b.toNat 0)):=by
 have e:bixN s b.toNat 0=Lib.indexByte s b:=by
  rw [bixN_eq]
  split
  ·rename_i h;exact h.symm
  ·simp
 rw [e]
 exact IndexByte_c
end Go.Proofs.YtbjngeioomjklaaGreatDoor
