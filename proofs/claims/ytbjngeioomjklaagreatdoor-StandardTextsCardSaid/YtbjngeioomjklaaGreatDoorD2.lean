/-
  The standard tables.
-/
import Derived.Test.YtbjngeioomjklaaGreatDoorD1
namespace Go.Proofs.YtbjngeioomjklaaGreatDoor
open Go Go.Am Classical
set_option maxRecDepth 100000
set_option linter.unusedSectionVars false
theorem comp_of {F n : Nat} {rs : List Rul} {L R : Mch} {a b : Aut} (hL : foldM true F n n (rs.map (·.left)) ⟨[],[],[]⟩ = some L) (hR : foldM false F n (n + 1) (rs.map (·.right)) ⟨[],[],[]⟩ = some R) (oL : okA n L = true) (oR : okA n R = true)
    (aL : autB n L.nx L.ro F 0 [L.hi] [] [] = some a) (aR : autB n R.nx R.ro F 0 [R.hi] [] [] = some b) : comp F n rs = some (a, b) := by
  unfold comp
  simp only [hL, hR, oL, oR, and_self, if_true, aL, aR]
theorem noBox_tab (cl : List Str) (acts : List Int) (a b c d : List (List Nat)) : noBox (.agg [strs cl, ints acts, natss a, natss b, natss c, natss d]) = true := by
  letI := gtR
  simp [noBox, noBoxs, noBox_strs, noBox_ints, noBox_natss]
theorem table_c {kind : Int} {k F : Nat} {cl : List Str} {rs : List Rul} {LN LM RN RM : List (List Nat)} (hk : (kind = 1 ∧ k = 6) ∨ (kind = 2 ∧ k = 8) ∨ (kind = 3 ∧ k = 10) ∨ (kind = 4 ∧ k = 12)) (hp : Parses kind k cl rs) (hF : F ≤ 10000) (hn : cl.length ≤ 999) (hcl0 : 0 < cl.length) (hrl : rs.length ≤ 1000) (hrs0 : 0 < rs.length)
    (h : comp F cl.length rs = some ((LN, LM), (RN, RM))) : @Pu gtR Tryz.prog 19 [i64 kind] (.agg [strs cl, ints (rs.map (·.act)), natss LN, natss LM, natss RN, natss RM]) := by
  letI := gtR
  obtain ⟨dc, dr, bs, L2, N2, H3, h1, h2, h3, h4, h5, h6, h7, h8, _, _⟩ := hp.ex
  have hc := compile_c hF hn hcl0 hrl hrs0 h h3 h4 h5 h6 h7 h8
  have f1 := h1.frame [(0, nil6)] (fun j B hj => by
    simp only [getL] at hj
    split at hj
    · rename_i e; subst e; exact ⟨rfl, h2⟩
    · cases hj)
  have f2 := hc.frame [(0, nil6)] (fun j B hj => by
    simp only [getL] at hj
    split at hj
    · rename_i e; subst e; exact ⟨h2, rfl⟩
    · cases hj)
  simp only [List.cons_append, List.nil_append, List.append_nil] at f1 f2
  rcases hk with ⟨rfl, rfl⟩ | ⟨rfl, rfl⟩ | ⟨rfl, rfl⟩ | ⟨rfl, rfl⟩
  all_goals
    refine Pu.of_v mixed T0 Tryz.func19 rfl rfl rfl ?_
    repeat' ((conv => whnf) <;> (first | refine SeqV.go mixed T0 ?_ | exact True.intro | (refine Br.mk (fun _ => ?_) (fun _ => ?_) <;> (try (exfalso; omega))) | refine stq ?_ | refine boxK_mk ?_ | refine Cll.mk ⟨_, _, f1, ?_⟩ | refine Cll.mk ⟨_, _, f2, ?_⟩ | fail))
    all_goals (conv => whnf)
    exact RetV.same (noBox_tab _ _ _ _ _ _) rfl
end Go.Proofs.YtbjngeioomjklaaGreatDoor
