/-
  Parts of the example of layer 57, run: quick checks and second elements at zero data.
-/
import Derived.Test.YticpeeooobajgaaGreatDoorXY
set_option linter.unusedSectionVars false
namespace Go.Proofs.YticpeeooobajgaaGreatDoor
open Go Go.Am Classical
set_option maxRecDepth 100000
set_option linter.unusedVariables false
abbrev zN:D:=.agg [aT,aT,aT]
abbrev ckD (f:Int) (k:Bool) (s:D):D:=.agg [aT,aT,aT,i64 f,boo k,s]
theorem usb0:Pu Tryz.prog 273 [zN] zN:=Pu.of_y (sp:=λ_ _=>none) aA T0 dI (f:=30) (by kernel_rfl) (by kernel_rfl)
theorem cps0:Pk Tryz.prog 274 [zN] 1 (λn=>.map n) (λn=>[(n,.map [])]):=Pk.of_ym (sp:=λ_ _=>none) aA T0 dI (f:=30) (by kernel_rfl) si (by kernel_rfl)
theorem mak0:Pu Tryz.prog 276 [dJ j4] (rU j4):=Pu.of_y (sp:=λ_ _=>none) aA T0 dI (f:=30) (by kernel_rfl) (by kernel_rfl)
theorem snd0:Pu Tryz.prog 162 [zN] (rU j4):=sec_0 usb0 cps0 mak0
theorem sf:Pu Tryz.prog 82 [aE [1,1]] (i64 1):=Pu.of_y (sp:=λ_ _=>none) aA T0 dI (f:=30) (by kernel_rfl) (by kernel_rfl)
theorem Cx:Pu Tryz.prog 85 [.fn (.func 164) [] [.iptr [aT]]] (aE []):=Pu.of_y (sp:=λ_ _=>none) aA T0 dI (f:=30) (by kernel_rfl) (by kernel_rfl)
theorem Cw:Pu Tryz.prog 85 [.fn (.func 164) [] [.iptr [aE [1,2]]]] (aE [1,2]):=Pu.of_y (sp:=λ_ _=>none) aA T0 dI (f:=30) (by kernel_rfl) (by kernel_rfl)
abbrev es1:List (D×D):=[(i64 1,i64 1),(i64 2,i64 1)]
theorem al10:Pu Tryz.prog 83 [ckD 1 false (dJ j4),aT] (i64 1):=xS (es:=[]) rfl si sf Cx (Pk.of_ym (sp:=λ_ _=>none) aA T0 dI (f:=40) (by kernel_rfl) si (by kernel_rfl)) si
theorem al11:Pu Tryz.prog 83 [ckD 1 false (dJ j4),aE [1,2]] (i64 1):=xR (es:=es1) rfl (by simp[aL]) sf Cw (Pk.of_ym (sp:=λ_ _=>none) aA T0 dI (f:=40) (by kernel_rfl) (by simp[aL]) (by kernel_rfl)) si
theorem al20:Pu Tryz.prog 83 [ckD 2 false aT,aT] (i64 1):=xS (es:=[]) rfl si sf Cx (Pk.of_ym (sp:=λ_ _=>none) aA T0 dI (f:=40) (by kernel_rfl) si (by kernel_rfl)) si
theorem al21:Pu Tryz.prog 83 [ckD 2 false aT,aE [1,2]] (i64 1):=xR (es:=es1) rfl (by simp[aL]) sf Cw (Pk.of_ym (sp:=λ_ _=>none) aA T0 dI (f:=40) (by kernel_rfl) (by simp[aL]) (by kernel_rfl)) si
theorem al30:Pu Tryz.prog 83 [ckD 3 true (dJ j4),aT] (i64 1):=xS (es:=[]) rfl si sf Cx (Pk.of_ym (sp:=λ_ _=>none) aA T0 dI (f:=40) (by kernel_rfl) si (by kernel_rfl)) si
theorem al31:Pu Tryz.prog 83 [ckD 3 true (dJ j4),aE [1,2]] (i64 1):=xR (es:=es1) rfl (by simp[aL]) sf Cw (Pk.of_ym (sp:=λ_ _=>none) aA T0 dI (f:=40) (by kernel_rfl) (by simp[aL]) (by kernel_rfl)) si
theorem al40:Pu Tryz.prog 83 [ckD 4 true aT,aT] (i64 1):=xS (es:=[]) rfl si sf Cx (Pk.of_ym (sp:=λ_ _=>none) aA T0 dI (f:=40) (by kernel_rfl) si (by kernel_rfl)) si
theorem al41:Pu Tryz.prog 83 [ckD 4 true aT,aE [1,2]] (i64 1):=xR (es:=es1) rfl (by simp[aL]) sf Cw (Pk.of_ym (sp:=λ_ _=>none) aA T0 dI (f:=40) (by kernel_rfl) (by simp[aL]) (by kernel_rfl)) si
end Go.Proofs.YticpeeooobajgaaGreatDoor
