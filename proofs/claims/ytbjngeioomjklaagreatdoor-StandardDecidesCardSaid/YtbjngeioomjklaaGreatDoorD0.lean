/-
  What is known of package-level variables; strings.Contains at short words.
-/
import Derived.Test.YtbjngeioomjklaaGreatDoorC11
import Derived.Test.YtbjngeioomjklaaGreatDoorE0
import Derived.Test.YtbjngeioomjklaaGreatDoorAmF
import Derived.Test.YtbjngeioomjklaaGreatDoorAmE
namespace Go.Proofs.YtbjngeioomjklaaGreatDoor
open Go Go.Am Classical
set_option maxRecDepth 100000
set_option linter.unusedSectionVars false
def asciiN:List Nat:=(List.range 256).map fun i=>if i=9∨i=10∨i=11∨i=12∨i=13∨i=32 then 1 else 0
def asciiD:List D:=asciiN.map fun k:Nat=>.v (.int .u8 (k:Int))
def asciiV:List Value:=asciiN.map fun k:Nat=>.int .u8 (k:Int)
abbrev gA:Nat:=0
abbrev gM:Nat:=2
def invS (m:Int) (c:Ctx):Prop:=c.S gA∧Holds c.w gA 0 asciiV∧c.S gM∧Holds c.w gM 0 [.int .i64 m]
theorem invS_keep {m:Int}{c c':Ctx}(h1:∀ b,c.S b→c'.S b) (h2:∀ b,c.S b→c'.w.heap[b]?=c.w.heap[b]?) (h:invS m c):invS m c':=
 ⟨h1 _ h.1,h.2.1.keep (h2 _ h.1),h1 _ h.2.2.1,h.2.2.2.keep (h2 _ h.2.2.1)⟩
theorem VS_ascii {c:Ctx}:∀ l:List Nat,VS c (l.map fun k:Nat=>D.v (.int .u8 (k:Int))) (l.map fun k:Nat=>Value.int .u8 (k:Int))
 | []=>VS.nil
 | k :: l=>VS.cons (by simp [V,free]) (VS_ascii l)
theorem invS_tab {m:Int}{c:Ctx}(h:invS m c):V c (.iptr asciiD) (.pointer (some ⟨gA,0,none⟩))∧V c (.iptr [i64 m]) (.pointer (some ⟨gM,0,none⟩)):=by
 refine ⟨?_,?_⟩
 ·simp only [V]
  exact ⟨gA,0,asciiV,rfl,VS_ascii _,.inr ⟨h.1,h.2.1⟩⟩
 ·simp only [V]
  exact ⟨gM,0,[.int .i64 m],rfl,VS.cons (by simp [V,free]) VS.nil,.inr ⟨h.2.2.1,h.2.2.2⟩⟩
@[reducible] def gtM (m:Int):GT where
 inv:=invS m
 keep:=invS_keep
 tab g:=if g=gA then some asciiD else if g=gM then some [i64 m] else none
 tabOk {c g cs} h e:=by
  split at e
  ·rename_i hg;subst hg;injection e with e;subst e;exact (invS_tab h).1
  ·split at e
   ·rename_i hg;subst hg;injection e with e;subst e;exact (invS_tab h).2
   ·cases e
@[reducible] def gtR:GT where
 inv c:=∃ m,invS m c
 keep h1 h2 h:=let ⟨m,h⟩:=h;⟨m,invS_keep h1 h2 h⟩
 tab g:=if g=gA then some asciiD else none
 tabOk {c g cs} h e:=by
  obtain ⟨m,h⟩:=h
  split at e
  ·rename_i hg;subst hg;injection e with e;subst e;exact (invS_tab h).1
  ·cases e
theorem Pu.any {g:FuncId}{ds:List D}{d:D}(h:∀ m,@Pu (gtM m) Tryz.prog g ds d):@Pu gtR Tryz.prog g ds d:=Pu.cases (0:Int) (A:=gtM) (fun _ h=>h) h
abbrev blanks:Str:=[32,9,13]
theorem SpOk.none {inst:GT}:@SpOk inst Tryz.prog (fun _ _=>none):=fun _ _ _ h=>by cases h
theorem byte_c {inst:GT}{w:Nat}(hw:w=67∨w=76):@Pu inst Tryz.prog 165 [.str [9],.v (.int .u8 (w:Int))] (i64 (-1)):=by
 rcases hw with rfl|rfl
 ·exact Pu.of_x (sp:=fun _ _=>none) mixed T0 SpOk.none (f:=5) rfl (by kernel_rfl)
 ·exact Pu.of_x (sp:=fun _ _=>none) mixed T0 SpOk.none (f:=5) rfl (by kernel_rfl)
theorem ixs_w {k:Nat}{s:Str}(hs:s=[67,82]∨s=[76,70]∨s=[76,86]){h:Heap}:@ExtW (gtM (Int.ofNat (k+2))) Tryz.prog 166 [.str blanks,.str s] h (i64 (-1)):=by
 letI:=gtM (Int.ofNat (k+2))
 intro c vs R hvs
 obtain ⟨y1,ys,rfl,v1,hvs⟩:=hvs.inv
 obtain ⟨y2,ys,rfl,v2,hvs⟩:=hvs.inv
 simp only [VS] at hvs
 subst hvs
 simp only [V] at v1 v2
 subst v1 v2
 have hcell:c.w.cell? ⟨gM,0,none⟩=some (.int .i64 (Int.ofNat (k+2))):=(show invS _ c from R.inv).2.2.2 0 (by simp)
 refine ⟨.int .i64 (-1),pureL_run hcell _ ?_,by simp [V,free]⟩
 rcases hs with rfl|rfl|rfl
 ·kernel_rfl
 ·kernel_rfl
 ·kernel_rfl
theorem ixs_m (m:Int){s:Str}(hs:s=[67,82]∨s=[76,70]∨s=[76,86]) (hm:((2:Nat):Int)≤m){h:Heap}:@ExtW (gtM m) Tryz.prog 166 [.str blanks,.str s] h (i64 (-1)):=by
 obtain ⟨k,rfl⟩:∃ k:Nat,m=Int.ofNat (k+2):=⟨(m - 2).toNat,by simp only [Int.ofNat_eq_natCast];omega⟩
 exact ixs_w hs
set_option maxHeartbeats 4000000 in
theorem index_m (m:Int){s:Str}(hs:s=[67,82]∨s=[76,70]∨s=[76,86]):@Pu (gtM m) Tryz.prog 142 [.str blanks,.str s] (i64 (-1)):=by
 letI:=gtM m
 rcases hs with rfl|rfl|rfl
 all_goals
  refine Pu.of_v mixed T0 Tryz.func142 rfl rfl rfl ?_
  repeat' ((conv=>whnf) <;> (first|refine IdxS.mk (by decide) (by decide) ?_|refine Br.mk (fun _=>?_) (fun hb=>absurd (by decide) hb)|refine Br.mk (fun hb=>absurd hb (by decide)) (fun _=>?_)|refine SeqV.goX mixed T0 ?_|refine SeqV.go mixed T0 ?_|exact True.intro|(refine Br.mk (fun _=>?_) (fun _=>?_) <;> (try (exfalso;omega)))|refine stq ?_|refine CllX.ext (ixs_m m (by first|exact .inl rfl|exact .inr (.inl rfl)|exact .inr (.inr rfl)) (by assumption)) ?_|refine CllX.pu (byte_c (.inl rfl)) ?_|refine CllX.pu (byte_c (.inr rfl)) ?_|refine LoopV.times mixed T0 1 ?_|refine Chk.mk (inK64 (by decide) (by decide)) ?_|refine Chk.mk (by decide) ?_|fail))
  all_goals (conv=>whnf)
  all_goals first|exact RetV.same rfl rfl|(exfalso;simp_all [blanks];done)
theorem contains_c {s:Str}(hs:s=[67,82]∨s=[76,70]∨s=[76,86]):@Pu gtR Tryz.prog 108 [.str blanks,.str s] (boo false):=by
 refine Pu.any fun m=>?_
 letI:=gtM m
 refine Pu.of_v mixed T0 Tryz.func108 rfl rfl rfl ?_
 repeat' ((conv=>whnf) <;> (first|refine SeqV.go mixed T0 ?_|exact True.intro|(refine Br.mk (fun _=>?_) (fun _=>?_) <;> (try (exfalso;omega)))|refine stq ?_|(apply Cll.inl mixed T0 Tryz.func106 rfl rfl ?_;rotate_left)|exact ⟨Or.inr rfl,rfl,rfl⟩|refine Cll.pu (index_m m hs) ?_|fail))
 all_goals (conv=>whnf)
 exact RetV.same rfl rfl
noncomputable def spC (g:FuncId) (ds:List D):Option D:=
 if Nat.beq g 108=true then
  match ds with
  | [.str a,.str b]=>if strB a blanks=true then (if (strB b [67,82] || strB b [76,70] || strB b [76,86])=true then some (boo false) else none) else none
  | _=>none
 else if Nat.beq g 102=true then
  match ds with
  | [.v (.int .u8 (.ofNat k))]=>some (boo (wbN k))
  | _=>none
 else if Nat.beq g 75=true then
  match ds with
  | [.str s]=>if Nat.ble s.length 1000=true then some (boo (nameB s)) else none
  | _=>none
 else if Nat.beq g 105=true then
  match ds with
  | [.str s,.str [b]]=>some (i64 (Int.ofNat (cntN s b.toNat)))
  | _=>none
 else if Nat.beq g 165=true then
  match ds with
  | [.str s,.v (.int .u8 (.ofNat k))]=>if Nat.blt k 256=true then some (i64 (bixN s k 0)) else none
  | _=>none
 else none
theorem spC_ok:@SpOk gtR Tryz.prog spC:=fun g ds d h=>by
 letI:=gtR
 unfold spC at h
 split at h
 ·rename_i hg
  obtain rfl:=Nat.eq_of_beq_eq_true hg
  split at h
  ·rename_i a b
   split at h
   ·rename_i ha
    split at h
    ·rename_i hb
     injection h with h;subst h
     rw [strB_iff.1 ha]
     simp only [Bool.or_eq_true] at hb
     refine contains_c ?_
     rcases hb with (hb|hb)|hb
     ·exact .inl (strB_iff.1 hb)
     ·exact .inr (.inl (strB_iff.1 hb))
     ·exact .inr (.inr (strB_iff.1 hb))
    ·cases h
   ·cases h
  ·cases h
 split at h
 ·rename_i hg
  obtain rfl:=Nat.eq_of_beq_eq_true hg
  split at h
  ·rename_i k
   injection h with h;subst h
   exact wordByte_b
  ·cases h
 split at h
 ·rename_i hg
  obtain rfl:=Nat.eq_of_beq_eq_true hg
  split at h
  ·split at h
   ·rename_i hl
    injection h with h;subst h
    exact isName_b (Nat.le_of_ble_eq_true hl)
   ·cases h
  ·cases h
 split at h
 ·rename_i hg
  obtain rfl:=Nat.eq_of_beq_eq_true hg
  split at h
  ·injection h with h;subst h
   exact Count_b
  ·cases h
 split at h
 ·rename_i hg
  obtain rfl:=Nat.eq_of_beq_eq_true hg
  split at h
  ·rename_i s k
   split at h
   ·rename_i hk
    injection h with h;subst h
    have hk':k < 256:=by simpa [Nat.blt_eq] using hk
    have e:(UInt8.ofNat k).toNat=k:=by simp;omega
    have:=IndexByte_b (s:=s) (b:=UInt8.ofNat k)
    rw [e] at this
    exact this
   ·cases h
  ·cases h
 ·cases h
end Go.Proofs.YtbjngeioomjklaaGreatDoor
