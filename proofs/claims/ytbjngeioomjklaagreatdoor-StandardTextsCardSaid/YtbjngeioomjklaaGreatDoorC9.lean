/-
  Contracts of functions over data: numbers of sets of nodes (add$1).
-/
import Derived.Test.YtbjngeioomjklaaGreatDoorC8
namespace Go.Proofs.YtbjngeioomjklaaGreatDoor
open Go Go.Am Classical
set_option maxRecDepth 100000
set_option linter.unusedSectionVars false
variable [GT]
theorem Find.posN {h : Heap} {k : Str} {l : List Str} {n : Nat} {K : Option (Nat × D) → Prop} (yes : ∀ i, k ∈ l → K (some (i, i64 ((n + l.idxOf k : Nat) : Int)))) (no : ¬ k ∈ l → K none) : Find h (.str k) (pos l n) K := by
  obtain ⟨r, h1, h2⟩ := findK_pos (h := h) (k := k) (l := l) (n := n) (i := 0)
  rcases h2 with ⟨h2, rfl⟩ | ⟨h2, rfl⟩
  · exact ⟨_, h1, by simpa using yes _ h2⟩
  · exact ⟨_, h1, no h2⟩
section
variable {h : Heap} {fz : Nat → Bool} {σ : Nat → Option Nat}
theorem Rd.owns {α : Type} {id id' es : Nat} {l : List α} (hs : σ id' = some id) : Rd h fz σ (ownD id es l) (ownD id' es l) := by
  cases l with
  | nil => exact .same rfl
  | cons x l => exact .sl hs
end
abbrev nskeys (ss : List (List Nat)) : List Str := ss.map skey
abbrev nsC (s : List Nat) : List D := [nats s]
abbrev blC (b : Bool) : List D := [boo b]
theorem noBoxs_ns (s : List Nat) : noBoxs (nsC s) = true := by simp [noBoxs, noBox_nats]
theorem noBoxs_one' {d : D} (h : noBox d = true) : noBoxs [d] = true := by simp [noBoxs, h]
abbrev mcC (n e : Nat) (b : Bool) (dn dh dr : D) : List D := [i64 n, i64 e, boo b, dn, dh, dr]
abbrev nuB (n e base : Nat) (b : Bool) (ss : List (List Nat)) (next : List (List Nat)) (hits : List Bool) (roots : List Nat) : List (Nat × Box) :=
  (0, .cells [.map 1] true) :: (1, .map (pos (nskeys ss) base)) :: (2, .cells [ownD 3 1 ss] true) :: (4, .cells [.ptr 5 0] true) :: (5, .cells (mcC n e b (ownD 7 1 next) (ownD 6 1 hits) (ownD 8 1 roots)) true) :: (ownB 3 nsC ss ++ ownB 6 blC hits)
theorem num_yes {base : Nat} {b : Bool} {ns : List Nd} {ss : List (List Nat)} {s : List Nat} (hl : s.length ≤ 1000000) (hs : ∀ i (h : i < s.length), s[i] < 100) (hk : skey s ∈ nskeys ss) :
    AC1 Tryz.prog 62 [nats s, .ptr 0 0, .iptr [i64 (base : Int)], .ptr 2 0, .ptr 4 0, netD ns b]
      ⟨9,[(0, .cells [.map 1] true), (1, .map (pos (nskeys ss) base))]⟩ (i64 ((base + (nskeys ss).idxOf (skey s) : Nat) : Int)) ⟨25,[(0, .cells [.map 1] true), (1, .map (pos (nskeys ss) base))]⟩ := by
  refine AC1.of_vl mixed T0 Tryz.func62 rfl rfl ?_
  repeat' ((conv => whnf) <;> (first | refine SeqV.go mixed T0 ?_ | exact True.intro | (refine Br.mk (fun _ => ?_) (fun _ => ?_) <;> (try (exfalso; omega))) | refine stq ?_ | refine Cll.pu (setKey_c sd sd) ?_ | refine Cal0.pu (setKey_c sd sd) ?_ | refine Cll.pu (setKey_c hl hs) ?_ | (refine Find.posN (fun _ _ => ?_) (fun _ => ?_) <;> (try contradiction)) | fail))
  all_goals (conv => whnf)
  exact ⟨Or.inr rfl, rfl, rfl⟩
abbrev nuR (n e base : Nat) (b : Bool) (ss : List (List Nat)) (next : List (List Nat)) (hits : List Bool) (roots : List Nat) : List (Nat × Box) :=
  [(0, .cells [.map 1] true), (1, .map (pos (nskeys ss) base)), (2, .cells [.sl 9 0 ss.length ss.length 1 false] true), (9, .cells (ss.flatMap nsC) false), (4, .cells [.ptr 5 0] true), (5, .cells (mcC n e b (ownD 7 1 next) (.sl 10 0 hits.length hits.length 1 false) (ownD 8 1 roots)) true), (10, .cells (hits.flatMap blC) false)]
theorem pos_end {ss : List (List Nat)} {s : List Nat} {base : Nat} : pos (nskeys ss) base ++ [(D.str (skey s), i64 ((base : Int) + (ss.length : Int)))] = pos (nskeys (ss ++ [s])) base := by
  simp only [nskeys, List.map_append, pos_append]
  simp [pos]
set_option maxHeartbeats 4000000 in
theorem num_no {n e base F : Nat} {b : Bool} {ns : List Nd} {ss next : List (List Nat)} {s r : List Nat} {hits : List Bool} {roots : List Nat} (hl : s.length ≤ 100000) (hs : ∀ i (h : i < s.length), s[i] < 100) (hk : ¬ skey s ∈ nskeys ss) (hsl : ss.length ≤ 100000) (hbase : base ≤ 100000)
    (hhl : hits.length = base + ss.length) (hF : F ≤ 100000) (hnl : ns.length ≤ 100000) (hset : ∀ i (h : i < s.length), s[i] < ns.length) (hcl : ∀ i (h : i < ns.length), ns[i].cls.length ≤ 1000000) (hg : (gat ns (e : Int) s).length ≤ 100000) (hst : stp ns F s (e : Int) = some r) (hrl : r.length ≤ 1000000) :
    AC1 Tryz.prog 62 [nats s, .ptr 0 0, .iptr [i64 (base : Int)], .ptr 2 0, .ptr 4 0, netD ns b]
      ⟨9, nuB n e base b ss next hits roots⟩ (i64 ((base + ss.length : Nat) : Int)) ⟨11, nuR n e base b (ss ++ [s]) next (hits ++ [decide (r = [0])]) roots⟩ := by
  have hstep := step_c (b := b) hF hnl hset (by omega) hcl hg hst
  have hend := ended_n (l := r) hrl
  have hl1 : s.length ≤ 1000000 := by omega
  refine AC1.of_vl mixed T0 Tryz.func62 rfl rfl ?_
  cases ss with
  | nil =>
    cases hits with
    | nil =>
      repeat' ((conv => whnf) <;> (first | refine SeqV.weak (nb := 9) (x := Code.ret) mixed T0 (s0 := ⟨tmp 49 [(7, i64 ((base + (([] : List (List Nat))).length : Nat) : Int))], ⟨11, nuR n e base b (([] : List (List Nat)) ++ [s]) next ([] ++ [decide (r = [0])]) roots⟩⟩) ?_ ?_ | refine SeqV.go mixed T0 ?_ | exact True.intro | (refine Br.mk (fun _ => ?_) (fun _ => ?_) <;> (try (exfalso; omega))) | refine stq ?_ | refine Cll.pu (setKey_c sd sd) ?_ | refine Cal0.pu (setKey_c sd sd) ?_ | refine Cll.pu (setKey_c hl1 hs) ?_ | (refine Find.posN (fun _ _ => ?_) (fun _ => ?_) <;> (try contradiction)) | refine DrawV.by (id := 7) mixed T0 [0,0,2,6,14,0,0,64,192,448,992,2016,4064,8190,16383,32767,65535] (by kernel_rfl) ?_ | refine Cal0.pu hstep ?_ | refine Cal0.pu hend ?_ | refine Chk.mk ⟨_, rfl⟩ ?_ | exact ⟨Or.inr rfl, rfl, rfl⟩ | fail))
      exact Lf.of2 [(9, _), (10, _)] [] (by (repeat (first | exact Ents.nil | refine Ents.cons rfl (by first | exact Rd.owns rfl | exact Rd.int (by simp; done) | exact Rd.int (by simp; omega) | exact Rd.sl' rfl (by simp; done) (by simp; done) | exact rdA | fail) ?_ | fail)); (first | done | fail)) (by (repeat (first | exact Bxs.nil | refine Bxs.cons rfl rfl rfl (by first | exact Rb.map (Res.eqs pos_end (noBox_pos _ _)) | exact Rb.cells (Rds.same (noBoxs_one' (noBox_nats _))) rfl | exact rbB | exact Rb.cells (by (repeat (first | exact Rds.nil | refine Rds.cons (by first | exact Rd.owns rfl | exact Rd.int (by simp; done) | exact Rd.int (by simp; omega) | exact Rd.sl' rfl (by simp; done) (by simp; done) | exact rdA | fail) ?_ | fail)); (first | done | fail)) rfl | exact rbC | fail) ?_ | fail)); (first | done | fail)) rfl rfl
    | cons y ys =>
      have hy2 : (y :: ys).length = ys.length + 1 := rfl
      repeat' ((conv => whnf) <;> (first | refine SeqV.weak (nb := 9) (x := Code.ret) mixed T0 (s0 := ⟨tmp 49 [(7, i64 ((base + (([] : List (List Nat))).length : Nat) : Int))], ⟨11, nuR n e base b (([] : List (List Nat)) ++ [s]) next ((y :: ys) ++ [decide (r = [0])]) roots⟩⟩) ?_ ?_ | refine SeqV.go mixed T0 ?_ | exact True.intro | (refine Br.mk (fun _ => ?_) (fun _ => ?_) <;> (try (exfalso; omega))) | refine stq ?_ | refine Cll.pu (setKey_c sd sd) ?_ | refine Cal0.pu (setKey_c sd sd) ?_ | refine Cll.pu (setKey_c hl1 hs) ?_ | (refine Find.posN (fun _ _ => ?_) (fun _ => ?_) <;> (try contradiction)) | refine DrawV.by (id := 7) mixed T0 [0,0,2,6,14,0,0,64,192,448,992,2016,4064,8190,16383,32767,65535] (by kernel_rfl) ?_ | refine Cal0.pu hstep ?_ | refine Cal0.pu hend ?_ | refine Chk.mk ⟨_, rfl⟩ ?_ | exact ⟨Or.inr rfl, rfl, rfl⟩ | fail))
      exact Lf.of2 [(9, _), (10, _)] [] (by (repeat (first | exact Ents.nil | refine Ents.cons rfl (by first | exact Rd.owns rfl | exact Rd.int (by simp; done) | exact Rd.int (by simp; omega) | exact Rd.sl' rfl (by simp; done) (by simp; done) | exact rdA | fail) ?_ | fail)); (first | done | fail)) (by (repeat (first | exact Bxs.nil | refine Bxs.cons rfl rfl rfl (by first | exact Rb.map (Res.eqs pos_end (noBox_pos _ _)) | exact Rb.cells (Rds.same (noBoxs_one' (noBox_nats _))) rfl | exact Rb.cells (Rds.eqs (app_cells (c := blC) (by intro _; rfl) (y :: ys) _) (noBoxs_flat (by intro _; rfl) _)) rfl | exact rbB | exact Rb.cells (by (repeat (first | exact Rds.nil | refine Rds.cons (by first | exact Rd.owns rfl | exact Rd.int (by simp; done) | exact Rd.int (by simp; omega) | exact Rd.sl' rfl (by simp; done) (by simp; done) | exact rdA | fail) ?_ | fail)); (first | done | fail)) rfl | exact rbC | fail) ?_ | fail)); (first | done | fail)) rfl rfl
  | cons t ts =>
    obtain ⟨y, ys, rfl⟩ := List.exists_cons_of_length_pos (show 0 < hits.length by simp at hhl; omega)
    have hy2 : (y :: ys).length = ys.length + 1 := rfl
    have ht2 : (t :: ts).length = ts.length + 1 := rfl
    repeat' ((conv => whnf) <;> (first | refine SeqV.weak (nb := 9) (x := Code.ret) mixed T0 (s0 := ⟨tmp 49 [(7, i64 ((base + ((t :: ts)).length : Nat) : Int))], ⟨11, nuR n e base b ((t :: ts) ++ [s]) next ((y :: ys) ++ [decide (r = [0])]) roots⟩⟩) ?_ ?_ | refine SeqV.go mixed T0 ?_ | exact True.intro | (refine Br.mk (fun _ => ?_) (fun _ => ?_) <;> (try (exfalso; omega))) | refine stq ?_ | refine Cll.pu (setKey_c sd sd) ?_ | refine Cal0.pu (setKey_c sd sd) ?_ | refine Cll.pu (setKey_c hl1 hs) ?_ | (refine Find.posN (fun _ _ => ?_) (fun _ => ?_) <;> (try contradiction)) | refine DrawV.by (id := 7) mixed T0 [0,0,2,6,14,0,0,64,192,448,992,2016,4064,8190,16383,32767,65535] (by kernel_rfl) ?_ | refine Cal0.pu hstep ?_ | refine Cal0.pu hend ?_ | refine Chk.mk ⟨_, rfl⟩ ?_ | exact ⟨Or.inr rfl, rfl, rfl⟩ | fail))
    exact Lf.of2 [(9, _), (10, _)] [] (by (repeat (first | exact Ents.nil | refine Ents.cons rfl (by first | exact Rd.owns rfl | exact Rd.int (by simp; done) | exact Rd.int (by simp; omega) | exact Rd.sl' rfl (by simp; done) (by simp; done) | exact rdA | fail) ?_ | fail)); (first | done | fail)) (by (repeat (first | exact Bxs.nil | refine Bxs.cons rfl rfl rfl (by first | exact Rb.map (Res.eqs pos_end (noBox_pos _ _)) | exact Rb.cells (Rds.eqs (app_cells (c := nsC) (by intro _; rfl) (t :: ts) _) (noBoxs_flat noBoxs_ns _)) rfl | exact Rb.cells (Rds.eqs (app_cells (c := blC) (by intro _; rfl) (y :: ys) _) (noBoxs_flat (by intro _; rfl) _)) rfl | exact rbB | exact Rb.cells (by (repeat (first | exact Rds.nil | refine Rds.cons (by first | exact Rd.owns rfl | exact Rd.int (by simp; done) | exact Rd.int (by simp; omega) | exact Rd.sl' rfl (by simp; done) (by simp; done) | exact rdA | fail) ?_ | fail)); (first | done | fail)) rfl | exact rbC | fail) ?_ | fail)); (first | done | fail)) rfl rfl
end Go.Proofs.YtbjngeioomjklaaGreatDoor
