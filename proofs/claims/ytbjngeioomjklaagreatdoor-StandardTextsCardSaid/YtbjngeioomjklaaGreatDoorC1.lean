/-
  Contracts of functions over data: keys of sets of nodes.
-/
import Derived.Test.YtbjngeioomjklaaGreatDoorC0
namespace Go.Proofs.YtbjngeioomjklaaGreatDoor
open Go Go.Am Classical
set_option maxRecDepth 100000
set_option linter.unusedSectionVars false
variable [GT]
def dig (k : Nat) : Str := if k < 10 then [UInt8.ofNat (48 + k)] else [UInt8.ofNat (48 + k / 10), UInt8.ofNat (48 + k % 10)]
theorem small_c {k : Nat} (hk : k < 100) : Pu Tryz.prog 172 [i64 k] (.str (dig k)) := by
  refine Pu.of_v mixed T0 Tryz.func172 rfl rfl rfl ?_
  have ew : IntKind.i64.wrap ((k : Int) * 2) = (k : Int) * 2 := by simp [IntKind.wrap, IntKind.bits, IntKind.signed]; omega
  repeat' ((conv => whnf) <;> (first | refine SeqV.go mixed T0 ?_ | exact True.intro | (refine Br.mk (fun _ => ?_) (fun _ => ?_) <;> (try (exfalso; omega))) | refine stq ?_ | refine Chk.mk ⟨by omega, by omega, show (_ : Int) ≤ ((36 : Nat) : Int) from by omega⟩ ?_ | refine Chk.mk (by rw [ew]; exact inK64 (by omega) (by omega)) ?_ | refine Chk.mk (by rw [ew]; exact ⟨by omega, by omega, show (_ : Int) ≤ ((200 : Nat) : Int) from by omega⟩) ?_ | fail))
  all_goals (conv => whnf)
  all_goals
    refine RetV.same rfl (congrArg D.str ?_)
    rename_i hk'
    clear ew
    revert k
    decide
def skey : List Nat → Str
  | [] => []
  | k :: l => dig k ++ [32] ++ skey l
theorem skey_append : ∀ l m, skey (l ++ m) = skey l ++ skey m
  | [], _ => rfl
  | k :: l, m => by simp [skey, skey_append l m]
abbrev nats (l : List Nat) : D := lst (fun k : Nat => i64 (k : Int)) l
theorem noBox_nats (l : List Nat) : noBox (nats l) = true := noBox_lst (fun _ => rfl) l
theorem dig_len (k : Nat) : (dig k).length ≤ 2 := by unfold dig; split <;> simp
theorem skey_succ {l : List Nat} {k : Nat} (h : k < l.length) : skey (l.take (k + 1)) = skey (l.take k) ++ (dig l[k] ++ [32]) := by
  rw [take_succ_eq h, skey_append]; simp [skey]
theorem skey_len {l : List Nat} : ∀ k, (skey (l.take k)).length ≤ 3 * l.length := fun k => by
  have h : ∀ m : List Nat, (skey m).length ≤ 3 * m.length := by
    intro m; induction m with
    | nil => simp [skey]
    | cons a m ih => have := dig_len a; simp [skey]; omega
  have := h (l.take k); simp at this; omega
abbrev bytC (b : UInt8) : List D := [byt b]
theorem ones_bytes : ∀ s : Str, ones (bytesD s) = true
  | [] => rfl
  | _ :: s => ones_bytes s
theorem byt_app (s r : Str) {n : Nat} {cs : List D} (hn : n = s.length) (e : cs = s.flatMap bytC) : (cs.drop 0).take (n * 1) ++ bytesD r = (s ++ r).flatMap bytC := by
  subst e; subst hn
  rw [List.drop_zero, List.take_of_length_le (by simp [flat_one]), List.flatMap_append]
  simp only [bytesD, flat_one]
theorem setKey_c {l : List Nat} (hl : l.length ≤ 1000000) (hs : ∀ i (h : i < l.length), l[i] < 100) : Pu Tryz.prog 63 [nats l] (.str (skey l)) := by
  refine Pu.of_v mixed T0 Tryz.func63 rfl rfl (by simp [noBoxs, noBox_nats]) ?_
  repeat' ((conv => whnf) <;> (first | refine SeqV.go mixed T0 ?_ | exact True.intro | (refine Br.mk (fun _ => ?_) (fun _ => ?_) <;> (try (exfalso; omega))) | refine stq ?_))
  refine LoopV.by2 mixed T0 (fun (k : Nat) (o : Str) => ⟨tmp 21 [(3, ownD 0 1 o), (6, nats l), (7, i64 l.length), (8, i64 (k : Int))], ⟨1, ownB 0 bytC o⟩⟩)
    (fun k o => k ≤ l.length ∧ o = skey (l.take k)) (fun k _ => l.length - k) 0 [] ⟨by omega, rfl⟩ ?_ ?_
  · exact Lf.of2 [] [] enA bxA rfl rfl
  intro k o ⟨h3, h4⟩
  by_cases hk : k < l.length
  · have h5 := hs k hk
    have ew1 : IntKind.u64.wrap ((l[k] : Nat) : Int) = ((l[k] : Nat) : Int) := by simp [IntKind.wrap, IntKind.bits, IntKind.signed]; omega
    have ew2 : IntKind.i64.wrap (IntKind.u64.wrap ((l[k] : Nat) : Int)) = ((l[k] : Nat) : Int) := by rw [ew1]; simp [IntKind.wrap, IntKind.bits, IntKind.signed]; omega
    obtain ⟨x0, xs0, hd, hx⟩ : ∃ x0 xs0, dig l[k] = x0 :: xs0 ∧ xs0.length ≤ 1 := by
      unfold dig; split
      · exact ⟨_, _, rfl, by simp⟩
      · exact ⟨_, _, rfl, by simp⟩
    have hx2 : (x0 :: xs0).length = xs0.length + 1 := rfl
    have hsm : Pu Tryz.prog 172 [i64 (IntKind.i64.wrap (IntKind.u64.wrap ((l[k] : Nat) : Int)))] (.str (x0 :: xs0)) := by rw [ew2, ← hd]; exact small_c h5
    cases o with
    | nil =>
      repeat' ((conv => whnf) <;> (first | refine SeqV.go mixed T0 ?_ | exact True.intro | (refine Br.mk (fun _ => ?_) (fun _ => ?_) <;> (try (exfalso; omega))) | refine stq ?_ | (apply Cll.inl mixed T0 Tryz.func91 rfl rfl ?_; rotate_left) | (apply Cll.inl mixed T0 Tryz.func131 rfl rfl ?_; rotate_left) | (apply Cll.inl mixed T0 Tryz.func152 rfl rfl ?_; rotate_left) | exact ⟨Or.inr rfl, rfl, rfl⟩ | refine Cll.pu hsm ?_ | refine Chk.growX 1 1 rfl rfl (by omega) (by omega) (by simp [bytesD]) ?_ | fail))
      all_goals (conv => whnf)
      refine ⟨k + 1, x0 :: (xs0 ++ [32]), ⟨by omega, by rw [skey_succ hk, ← h4, hd]; simp⟩, by omega, ?_⟩
      exact Lf.of2 [(0, _)] [] (by (repeat (first | exact Ents.nil | refine Ents.cons rfl (by first | exact Rd.sl' rfl (by simp) (by simp) | exact rdA | fail) ?_ | fail)); (first | done | fail)) (by (repeat (first | exact Bxs.nil | refine Bxs.cons rfl rfl rfl (by first | exact Rb.cells (Rds.eqs (byt_app (x0 :: xs0) [32] rfl (by simp only [bytesD, flat_one])) (noBoxs_flat (by intro _; rfl) _)) rfl | exact rbB | exact Rb.cells (by (repeat (first | exact Rds.nil | refine Rds.cons (by first | exact Rd.sl' rfl (by simp) (by simp) | exact rdA | fail) ?_ | fail)); (first | done | fail)) rfl | exact rbC | fail) ?_ | fail)); (first | done | fail)) rfl rfl
    | cons x xs =>
      have hx3 : (x :: xs).length ≤ 3 * l.length := by rw [h4]; exact skey_len k
      repeat' ((conv => whnf) <;> (first | refine SeqV.go mixed T0 ?_ | exact True.intro | (refine Br.mk (fun _ => ?_) (fun _ => ?_) <;> (try (exfalso; omega))) | refine stq ?_ | (apply Cll.inl mixed T0 Tryz.func91 rfl rfl ?_; rotate_left) | (apply Cll.inl mixed T0 Tryz.func131 rfl rfl ?_; rotate_left) | (apply Cll.inl mixed T0 Tryz.func152 rfl rfl ?_; rotate_left) | exact ⟨Or.inr rfl, rfl, rfl⟩ | refine Cll.pu hsm ?_ | refine Chk.mk (ones_bytes _) ?_ | refine Chk.growX 1 1 rfl rfl (by omega) (by omega) (by rw [byt_app (x :: xs) (x0 :: xs0) rfl rfl, flat_one]; simp; omega) ?_ | fail))
      all_goals (conv => whnf)
      refine ⟨k + 1, x :: (xs ++ (x0 :: (xs0 ++ [32]))), ⟨by omega, by rw [skey_succ hk, ← h4, hd]; simp⟩, by omega, ?_⟩
      have e2 : ((x :: xs) ++ (x0 :: xs0)) ++ [32] = x :: (xs ++ (x0 :: (xs0 ++ [32]))) := by simp
      exact Lf.of2 [(0, _)] [] (by (repeat (first | exact Ents.nil | refine Ents.cons rfl (by first | exact Rd.sl' rfl (by simp; omega) (by simp; omega) | exact rdA | fail) ?_ | fail)); (first | done | fail)) (by (repeat (first | exact Bxs.nil | refine Bxs.cons rfl rfl rfl (by first | exact Rb.cells (Rds.eqs ((byt_app ((x :: xs) ++ (x0 :: xs0)) [32] (by simp; omega) (byt_app (x :: xs) (x0 :: xs0) rfl rfl)).trans (by rw [e2])) (noBoxs_flat (by intro _; rfl) _)) rfl | exact rbB | exact Rb.cells (by (repeat (first | exact Rds.nil | refine Rds.cons (by first | exact Rd.sl' rfl (by simp; omega) (by simp; omega) | exact rdA | fail) ?_ | fail)); (first | done | fail)) rfl | exact rbC | fail) ?_ | fail)); (first | done | fail)) rfl rfl
  · have hfin : skey l = o := by rw [h4, List.take_of_length_le (by omega)]
    rw [hfin]
    cases o with
    | nil =>
      repeat' ((conv => whnf) <;> (first | refine SeqV.go mixed T0 ?_ | exact True.intro | (refine Br.mk (fun _ => ?_) (fun _ => ?_) <;> (try (exfalso; omega))) | refine stq ?_ | fail))
      all_goals (conv => whnf)
      exact RetV.same rfl rfl
    | cons x xs =>
      repeat' ((conv => whnf) <;> (first | refine SeqV.go mixed T0 ?_ | exact True.intro | (refine Br.mk (fun _ => ?_) (fun _ => ?_) <;> (try (exfalso; omega))) | refine stq ?_ | refine Cvs.all (l := x :: xs) (flat_one _) rfl ?_ | fail))
      all_goals (conv => whnf)
      exact RetV.same rfl rfl
end Go.Proofs.YtbjngeioomjklaaGreatDoor
