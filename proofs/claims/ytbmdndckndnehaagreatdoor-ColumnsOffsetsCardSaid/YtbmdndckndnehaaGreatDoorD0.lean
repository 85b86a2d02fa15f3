/-
  What is known of package-level variables; strings.Contains at short words.
-/
import Derived.Test.YtbmdndckndnehaaGreatDoorC11
import Derived.Test.YtbmdndckndnehaaGreatDoorE0
import Derived.Test.YtbmdndckndnehaaGreatDoorAmF
import Derived.Test.YtbmdndckndnehaaGreatDoorAmE
set_option linter.unusedSectionVars false
namespace Go.Proofs.YtbmdndckndnehaaGreatDoor
open Go Go.Am Classical
set_option maxRecDepth 100000
def fu:List Nat:=(List.range 256).map λi=>if i=9∨i=10∨i=11∨i=12∨i=13∨i=32 then 1 else 0
def Aj:List D:=fu.map λk:Nat=>.v (.int .u8 (k:Int))
def wW:List Value:=fu.map λk:Nat=>.int .u8 (k:Int)
abbrev gA:Nat:=0
abbrev gM:Nat:=2
def DK (m:Int) (c:Ctx):Prop:=c.S gA∧Holds c.w gA 0 wW∧c.S gM∧Holds c.w gM 0 [.int .i64 m]
theorem uZ {m:Int}{c c':Ctx}(h1:∀ b,c.S b->c'.S b) (h2:∀ b,c.S b->c'.w.heap[b]?=c.w.heap[b]?) (h:DK m c):DK m c':=
 ⟨h1 _ h.1,h.2.1.keep (h2 _ h.1),h1 _ h.2.2.1,h.2.2.2.keep (h2 _ h.2.2.1)⟩
theorem yy {c:Ctx}:∀ l:List Nat,VS c (l.map λk:Nat=>D.v (.int .u8 (k:Int))) (l.map λk:Nat=>Value.int .u8 (k:Int))
 | []=>VS.nil
 | k::l=>VS.cons (by simp[V,cm]) (yy l)
theorem sH {m:Int}{c:Ctx}(h:DK m c):V c (.iptr Aj) (.pointer (some ⟨gA,0,none⟩))∧V c (.iptr [i64 m]) (.pointer (some ⟨gM,0,none⟩)):=by
 refine⟨?_,?_⟩
 ·simp only[V];exact⟨gA,0,wW,rfl,yy _,.inr ⟨h.1,h.2.1⟩⟩
 ·simp only[V];exact⟨gM,0,[.int .i64 m],rfl,VS.cons (by simp[V,cm]) VS.nil,.inr ⟨h.2.2.1,h.2.2.2⟩⟩
@[reducible] def gtM (m:Int):GT where
 inv:=DK m
 keep:=uZ
 tab g:=if g=gA then some Aj else if g=gM then some [i64 m] else none
 tabOk {c g cs} h e:=by
  split at e
  ·rename_i hg;subst hg;injection e with e;subst e;exact(sH h).1
  ·split at e
   ·rename_i hg;subst hg;injection e with e;subst e;exact(sH h).2
   ·cases e
@[reducible] def gtR:GT where
 inv c:=∃ m,DK m c
 keep h1 h2 h:=let⟨m,h⟩:=h;⟨m,uZ h1 h2 h⟩
 tab g:=if g=gA then some Aj else none
 tabOk {c g cs} h e:=by
  obtain⟨m,h⟩:=h;split at e
  ·rename_i hg;subst hg;injection e with e;subst e;exact(sH h).1
  ·cases e
theorem Pu.any {g:FuncId}{ds:List D}{d:D}(h:∀ m,@Pu (gtM m) Tryz.prog g ds d):@Pu gtR Tryz.prog g ds d:=Pu.cases (0:Int) (A:=gtM) (λ_ h=>h) h
abbrev pS:Str:=[32,9,13]
theorem qf.none {inst:GT}:@qf inst Tryz.prog (λ_ _=>none):=λ_ _ _ h=>by cases h
theorem Ge {inst:GT}{w:Nat}(hw:w=67∨w=76):@Pu inst Tryz.prog 266 [.str [9],.v (.int .u8 (w:Int))] (i64 (-1)):=by
 rcases hw with rfl|rfl
 ·exact Pu.of_x (sp:=λ_ _=>none) aB T0 qf.none (f:=5) rfl (by kernel_rfl)
 ·exact Pu.of_x (sp:=λ_ _=>none) aB T0 qf.none (f:=5) rfl (by kernel_rfl)
theorem ixs_w {k:Nat}{s:Str}(hs:s=[67,82]∨s=[76,70]∨s=[76,86]){h:aA}:@D2 (gtM (Int.ofNat (k+2))) Tryz.prog 267 [.str pS,.str s] h (i64 (-1)):=by
 letI:=gtM (Int.ofNat (k+2));intro c vs R hvs;obtain⟨y1,ys,rfl,v1,hvs⟩:=hvs.inv;obtain⟨y2,ys,rfl,v2,hvs⟩:=hvs.inv;simp only[VS] at hvs;subst hvs;simp only[V] at v1 v2;subst v1 v2;have hcell:c.w.cell? ⟨gM,0,none⟩=some (.int .i64 (Int.ofNat (k+2))):=(show DK _ c from R.inv).2.2.2 0 si;refine⟨.int .i64 (-1),lX hcell _ ?_,by simp[V,cm]⟩;rcases hs with rfl|rfl|rfl
 ·kernel_rfl
 ·kernel_rfl
 ·kernel_rfl
theorem ixs_m (m:Int){s:Str}(hs:s=[67,82]∨s=[76,70]∨s=[76,86]) (hm:((2:Nat):Int)<=m){h:aA}:@D2 (gtM m) Tryz.prog 267 [.str pS,.str s] h (i64 (-1)):=by
 obtain⟨k,rfl⟩:∃ k:Nat,m=Int.ofNat (k+2):=⟨(m-2).toNat,by simp only[Int.ofNat_eq_natCast];omega⟩;exact ixs_w hs
set_option maxHeartbeats 4000000 in
theorem IJ (m:Int){s:Str}(hs:s=[67,82]∨s=[76,70]∨s=[76,86]):@Pu (gtM m) Tryz.prog 248 [.str pS,.str s] (i64 (-1)):=by
 letI:=gtM m;rcases hs with rfl|rfl|rfl
 all_goals
  refine pv Tryz.func248 ?_;repeat' ((conv=>whnf);first|refine Ao.mk (by decide) (by decide) ?_|refine Br.mk (λ_=>?_) (λhb=>absurd (by decide) hb)|refine Br.mk (λhb=>absurd hb (by decide)) (λ_=>?_)|refine db.goX aB T0 ?_|exact kQ|(refine bk ?_ ?_<;>intro _<;>try(exfalso;omega))|refine stq ?_|refine tb.ext (ixs_m m (by first|exact .inl rfl|exact .inr (.inl rfl)|exact .inr (.inr rfl)) asm) ?_|refine tb.pu (Ge (.inl rfl)) ?_|refine tb.pu (Ge (.inr rfl)) ?_|refine aH.times aB T0 1 ?_|refine Chk.mk (sJ (by decide) (by decide)) ?_|refine Chk.mk (by decide) ?_|fail)
  all_goals(conv=>whnf)
  all_goals first|exact aC.same rfl rfl|(exfalso;simp_all [pS];done)
theorem AU {s:Str}(hs:s=[67,82]∨s=[76,70]∨s=[76,86]):@Pu gtR Tryz.prog 218 [.str pS,.str s] (boo false):=by
 refine Pu.any λm=>?_
 letI:=gtM m;refine pv Tryz.func218 ?_;repeat' ((conv=>whnf);first|exact kQ|(refine bk ?_ ?_<;>intro _<;>try(exfalso;omega))|refine stq ?_|(apply Cll.inl aB T0 Tryz.func216 rfl rfl ?_;rotate_left)|exact⟨Or.inr rfl,rfl,rfl⟩|refine cp (IJ m hs) ?_|fail)
 all_goals(conv=>whnf)
 exact aC.same rfl rfl
noncomputable def spC (g:FuncId) (ds:List D):Option D:=
 if Nat.beq g 218=true then
  match ds with
  | [.str a,.str b]=>if ia a pS=true then(if(ia b [67,82] || ia b [76,70] || ia b [76,86])=true then some (boo false) else none) else none
  | _=>none
 else if Nat.beq g 203=true then
  match ds with
  | [.v (.int .u8 (.ofNat k))]=>some (boo (wbN k))
  | _=>none
 else if Nat.beq g 181=true then
  match ds with
  | [.str s]=>if Nat.ble s.length 1000=true then some (boo (r5 s)) else none
  | _=>none
 else if Nat.beq g 215=true then
  match ds with
  | [.str s,.str [b]]=>some (i64 (Int.ofNat (GU s b.toNat)))
  | _=>none
 else if Nat.beq g 266=true then
  match ds with
  | [.str s,.v (.int .u8 (.ofNat k))]=>if Nat.blt k 256=true then some (i64 (Gi s k 0)) else none
  | _=>none
 else none
theorem iO:@qf gtR Tryz.prog spC:=λg ds d h=>by
 letI:=gtR;unfold spC at h;split at h
 ·rename_i hg;obtain rfl:=Nat.eq_of_beq_eq_true hg;split at h
  ·rename_i a b;split at h
   ·rename_i ha;split at h
    ·rename_i hb;injection h with h;subst h
     rw[cS.1 ha];simp only[kN] at hb;refine AU ?_;rcases hb with(hb|hb)|hb
     ·exact .inl (cS.1 hb)
     ·exact .inr (.inl (cS.1 hb))
     ·exact .inr (.inr (cS.1 hb))
    ·cases h
   ·cases h
  ·cases h
 split at h
 ·rename_i hg;obtain rfl:=Nat.eq_of_beq_eq_true hg;split at h
  ·rename_i k;injection h with h;subst h
   exact zM
  ·cases h
 split at h
 ·rename_i hg;obtain rfl:=Nat.eq_of_beq_eq_true hg;split at h
  ·split at h
   ·rename_i hl;injection h with h;subst h
    exact Fh (kD hl)
   ·cases h
  ·cases h
 split at h
 ·rename_i hg;obtain rfl:=Nat.eq_of_beq_eq_true hg;split at h
  ·injection h with h;subst h
   exact JI
  ·cases h
 split at h
 ·rename_i hg;obtain rfl:=Nat.eq_of_beq_eq_true hg;split at h
  ·rename_i s k;split at h
   ·rename_i hk;injection h with h;subst h
    have hk':k<256:=by simpa [Nat.blt_eq] using hk
    have e:(UInt8.ofNat k).toNat=k:=by simp;omega
    have:=y7 (s:=s) (b:=UInt8.ofNat k)
    rw[e] at this;exact this
   ·cases h
  ·cases h
 ·cases h
end Go.Proofs.YtbmdndckndnehaaGreatDoor
