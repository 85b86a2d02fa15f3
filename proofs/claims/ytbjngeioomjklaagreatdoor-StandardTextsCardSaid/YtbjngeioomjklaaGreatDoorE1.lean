/-
  Lines of rules cut into words, by closed runs.
-/
import Derived.Test.YtbjngeioomjklaaGreatDoorD1
namespace Go.Proofs.YtbjngeioomjklaaGreatDoor
open Go Go.Am
set_option maxRecDepth 100000
noncomputable def scanB : List (Str × List Str) → Bool
  | [] => true
  | (l, t) :: r => callT gtR Tryz.prog (tiOf Tryz.prog) spC 100 (.fn 77) [.str l] .emp 0 (fun d h _ => retB h 100000 d (strs t)) && scanB r
theorem scanB_ok : ∀ {T : List (Str × List Str)}, scanB T = true → ∀ p ∈ T, @Pu gtR Tryz.prog 77 [.str p.1] (strs p.2)
  | [], _, p, hp => by simp at hp
  | (l, t) :: r, h, p, hp => by
    simp only [scanB, Bool.and_eq_true] at h
    rcases List.mem_cons.1 hp with rfl | hp
    · letI := gtR
      exact Pu.of_t mixed T0 spC_ok rfl h.1
    · exact scanB_ok h.2 p hp
def lookS (l : Str) : List (Str × List Str) → Option (List Str)
  | [] => none
  | p :: r => if strB l p.1 = true then some p.2 else lookS l r
theorem lookS_mem {l : Str} {t : List Str} : ∀ {T : List (Str × List Str)}, lookS l T = some t → (l, t) ∈ T
  | [], h => by simp [lookS] at h
  | p :: r, h => by
    letI := gtR
    simp only [lookS] at h
    split at h
    · rename_i e
      injection h with h
      rw [strB_iff.1 e, ← h]; simp
    · exact List.mem_cons_of_mem _ (lookS_mem h)
noncomputable def spL (T : List (Str × List Str)) (g : FuncId) (ds : List D) : Option D :=
  if Nat.beq g 77 = true then
    match ds with
    | [.str l] => (match lookS l T with | some t => some (strs t) | none => none)
    | _ => none
  else spC g ds
theorem spL_ok {T : List (Str × List Str)} (h : scanB T = true) : @SpOk gtR Tryz.prog (spL T) := fun g ds d hd => by
  unfold spL at hd
  split at hd
  · rename_i hg
    obtain rfl := Nat.eq_of_beq_eq_true hg
    split at hd
    · split at hd
      · rename_i t ht
        injection hd with hd; subst hd
        exact scanB_ok h _ (lookS_mem ht)
      · cases hd
    · cases hd
  · exact spC_ok g ds d hd
end Go.Proofs.YtbjngeioomjklaaGreatDoor
