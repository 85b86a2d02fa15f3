/-
  What is known of package-level variables; strings.Contains at short words.
-/
import Derived.Test.YtjpgpihbhicinaaGreatDoorC11
import Derived.Test.YtjpgpihbhicinaaGreatDoorE0
import Derived.Test.YtjpgpihbhicinaaGreatDoorAmF
import Derived.Test.YtjpgpihbhicinaaGreatDoorAmE
set_option linter.unusedSectionVars false
namespace Go.Proofs.YtjpgpihbhicinaaGreatDoor
open Go Go.Am Classical
set_option maxRecDepth 100000
def fZ:List Nat:=(List.range 256).map fun i=>if i=9∨i=10∨i=11∨i=12∨i=13∨i=32 then 1 else 0
def xx:List D:=fZ.map fun k:Nat=>.v (.int .u8 (k:Int))
def uI:List Value:=fZ.map fun k:Nat=>.int .u8 (k:Int)
abbrev gA:Nat:=0
abbrev gM:Nat:=2
def AG (m:Int) (c:Ctx):Prop:=c.S gA∧Holds c.w gA 0 uI∧c.S gM∧Holds c.w gM 0 [.int .i64 m]
theorem sG {m:Int}{c c':Ctx}(h1:∀ b,c.S b->c'.S b) (h2:∀ b,c.S b->c'.w.heap[b]?=c.w.heap[b]?) (h:AG m c):AG m c':=
 ⟨h1 _ h.1,h.2.1.keep (h2 _ h.1),h1 _ h.2.2.1,h.2.2.2.keep (h2 _ h.2.2.1)⟩
theorem wZ {c:Ctx}:∀ l:List Nat,VS c (l.map fun k:Nat=>D.v (.int .u8 (k:Int))) (l.map fun k:Nat=>Value.int .u8 (k:Int))
 | []=>VS.nil
 | k::l=>VS.cons (by simp[V,cy]) (wZ l)
theorem qW {m:Int}{c:Ctx}(h:AG m c):V c (.iptr xx) (.pointer (some ⟨gA,0,none⟩))∧V c (.iptr [i64 m]) (.pointer (some ⟨gM,0,none⟩)):=by
 refine⟨?_,?_⟩
 ·simp only[V];exact⟨gA,0,uI,rfl,wZ _,.inr ⟨h.1,h.2.1⟩⟩
 ·simp only[V];exact⟨gM,0,[.int .i64 m],rfl,VS.cons (by simp[V,cy]) VS.nil,.inr ⟨h.2.2.1,h.2.2.2⟩⟩
@[reducible] def gtM (m:Int):GT where
 inv:=AG m
 keep:=sG
 tab g:=if g=gA then some xx else if g=gM then some [i64 m] else none
 tabOk {c g cs} h e:=by
  split at e
  ·rename_i hg;subst hg;injection e with e;subst e;exact(qW h).1
  ·split at e
   ·rename_i hg;subst hg;injection e with e;subst e;exact(qW h).2
   ·cases e
@[reducible] def gtR:GT where
 inv c:=∃ m,AG m c
 keep h1 h2 h:=let⟨m,h⟩:=h;⟨m,sG h1 h2 h⟩
 tab g:=if g=gA then some xx else none
 tabOk {c g cs} h e:=by
  obtain⟨m,h⟩:=h;split at e
  ·rename_i hg;subst hg;injection e with e;subst e;exact(qW h).1
  ·cases e
theorem Pu.any {g:FuncId}{ds:List D}{d:D}(h:∀ m,@Pu (gtM m) Tryz.prog g ds d):@Pu gtR Tryz.prog g ds d:=Pu.cases (0:Int) (A:=gtM) (fun _ h=>h) h
abbrev n6:Str:=[32,9,13]
theorem o6.none {inst:GT}:@o6 inst Tryz.prog (fun _ _=>none):=fun _ _ _ h=>by cases h
theorem DF {inst:GT}{w:Nat}(hw:w=67∨w=76):@Pu inst Tryz.prog 244 [.str [9],.v (.int .u8 (w:Int))] (i64 (-1)):=by
 rcases hw with rfl|rfl
 ·exact Pu.of_x (sp:=fun _ _=>none) aA T0 o6.none (f:=5) rfl (by kernel_rfl)
 ·exact Pu.of_x (sp:=fun _ _=>none) aA T0 o6.none (f:=5) rfl (by kernel_rfl)
theorem ixs_w {k:Nat}{s:Str}(hs:s=[67,82]∨s=[76,70]∨s=[76,86]){h:aC}:@Ao (gtM (Int.ofNat (k+2))) Tryz.prog 245 [.str n6,.str s] h (i64 (-1)):=by
 letI:=gtM (Int.ofNat (k+2));intro c vs R hvs;obtain⟨y1,ys,rfl,v1,hvs⟩:=hvs.inv;obtain⟨y2,ys,rfl,v2,hvs⟩:=hvs.inv;simp only[VS] at hvs;subst hvs;simp only[V] at v1 v2;subst v1 v2;have hcell:c.w.cell? ⟨gM,0,none⟩=some (.int .i64 (Int.ofNat (k+2))):=(show AG _ c from R.inv).2.2.2 0 (by simp);refine⟨.int .i64 (-1),ku hcell _ ?_,by simp[V,cy]⟩;rcases hs with rfl|rfl|rfl
 ·kernel_rfl
 ·kernel_rfl
 ·kernel_rfl
theorem ixs_m (m:Int){s:Str}(hs:s=[67,82]∨s=[76,70]∨s=[76,86]) (hm:((2:Nat):Int)<=m){h:aC}:@Ao (gtM m) Tryz.prog 245 [.str n6,.str s] h (i64 (-1)):=by
 obtain⟨k,rfl⟩:∃ k:Nat,m=Int.ofNat (k+2):=⟨(m-2).toNat,by simp only[Int.ofNat_eq_natCast];omega⟩;exact ixs_w hs
set_option maxHeartbeats 4000000 in
theorem Ek (m:Int){s:Str}(hs:s=[67,82]∨s=[76,70]∨s=[76,86]):@Pu (gtM m) Tryz.prog 225 [.str n6,.str s] (i64 (-1)):=by
 letI:=gtM m;rcases hs with rfl|rfl|rfl
 all_goals
  refine Pu.of_v aA T0 Tryz.func225 rfl rfl rfl ?_;repeat' ((conv=>whnf)<;>(first|refine x9.mk (by decide) (by decide) ?_|refine Br.mk (fun _=>?_) (fun hb=>absurd (by decide) hb)|refine Br.mk (fun hb=>absurd hb (by decide)) (fun _=>?_)|refine eW.goX aA T0 ?_|refine sg ?_|exact kQ|(refine Br.mk ?_ ?_<;>intro _<;>try(exfalso;omega))|refine stq ?_|refine rU.ext (ixs_m m (by first|exact .inl rfl|exact .inr (.inl rfl)|exact .inr (.inr rfl)) (by assumption)) ?_|refine rU.pu (DF (.inl rfl)) ?_|refine rU.pu (DF (.inr rfl)) ?_|refine aU.times aA T0 1 ?_|refine Chk.mk (sI (by decide) (by decide)) ?_|refine Chk.mk (by decide) ?_|fail))
  all_goals(conv=>whnf)
  all_goals first|exact aI.same rfl rfl|(exfalso;simp_all [n6];done)
theorem xn {s:Str}(hs:s=[67,82]∨s=[76,70]∨s=[76,86]):@Pu gtR Tryz.prog 192 [.str n6,.str s] (boo false):=by
 refine Pu.any fun m=>?_
 letI:=gtM m;refine Pu.of_v aA T0 Tryz.func192 rfl rfl rfl ?_;repeat' ((conv=>whnf)<;>(first|refine sg ?_|exact kQ|(refine Br.mk ?_ ?_<;>intro _<;>try(exfalso;omega))|refine stq ?_|(apply Cll.inl aA T0 Tryz.func190 rfl rfl ?_;rotate_left)|exact⟨Or.inr rfl,rfl,rfl⟩|refine Cll.pu (Ek m hs) ?_|fail))
 all_goals(conv=>whnf)
 exact aI.same rfl rfl
noncomputable def spC (g:FuncId) (ds:List D):Option D:=
 if Nat.beq g 192=true then
  match ds with
  | [.str a,.str b]=>if jj a n6=true then(if(jj b [67,82] || jj b [76,70] || jj b [76,86])=true then some (boo false) else none) else none
  | _=>none
 else if Nat.beq g 181=true then
  match ds with
  | [.v (.int .u8 (.ofNat k))]=>some (boo (wbN k))
  | _=>none
 else if Nat.beq g 159=true then
  match ds with
  | [.str s]=>if Nat.ble s.length 1000=true then some (boo (qM s)) else none
  | _=>none
 else if Nat.beq g 189=true then
  match ds with
  | [.str s,.str [b]]=>some (i64 (Int.ofNat (C5 s b.toNat)))
  | _=>none
 else if Nat.beq g 244=true then
  match ds with
  | [.str s,.v (.int .u8 (.ofNat k))]=>if Nat.blt k 256=true then some (i64 (DI s k 0)) else none
  | _=>none
 else none
theorem jD:@o6 gtR Tryz.prog spC:=fun g ds d h=>by
 letI:=gtR;unfold spC at h;split at h
 ·rename_i hg;obtain rfl:=Nat.eq_of_beq_eq_true hg;split at h
  ·rename_i a b;split at h
   ·rename_i ha;split at h
    ·rename_i hb;injection h with h;subst h
     rw[ci.1 ha];simp only[kN] at hb;refine xn ?_;rcases hb with(hb|hb)|hb
     ·exact .inl (ci.1 hb)
     ·exact .inr (.inl (ci.1 hb))
     ·exact .inr (.inr (ci.1 hb))
    ·cases h
   ·cases h
  ·cases h
 split at h
 ·rename_i hg;obtain rfl:=Nat.eq_of_beq_eq_true hg;split at h
  ·rename_i k;injection h with h;subst h
   exact wn
  ·cases h
 split at h
 ·rename_i hg;obtain rfl:=Nat.eq_of_beq_eq_true hg;split at h
  ·split at h
   ·rename_i hl;injection h with h;subst h
    exact CO (kD hl)
   ·cases h
  ·cases h
 split at h
 ·rename_i hg;obtain rfl:=Nat.eq_of_beq_eq_true hg;split at h
  ·injection h with h;subst h
   exact FQ
  ·cases h
 split at h
 ·rename_i hg;obtain rfl:=Nat.eq_of_beq_eq_true hg;split at h
  ·rename_i s k;split at h
   ·rename_i hk;injection h with h;subst h
    have hk':k<256:=by simpa [Nat.blt_eq] using hk
    have e:(UInt8.ofNat k).toNat=k:=by simp;omega
    have:=wd (s:=s) (b:=UInt8.ofNat k)
    rw[e] at this;exact this
   ·cases h
  ·cases h
 ·cases h
end Go.Proofs.YtjpgpihbhicinaaGreatDoor
