/-
  Contracts of functions over data: mappings of the program.
-/
import Derived.Test.YtihggclfifimoaaGreatDoorG1
set_option linter.unusedSectionVars false
namespace Go.Proofs.YtihggclfifimoaaGreatDoor
open Go Go.Am Classical
set_option maxRecDepth 100000
theorem xHC.rdX {p:Prop}(h:p:=by first|exact Rd.frz rfl rfl (kD rfl) (Rds.eqs rfl rfl)|fail):p:=h
open xHC
variable [GT]
theorem Ba {s:Str}(hs:s.length<=9223372036854775807):Pu Tryz.prog 368 [.str s] (boo (decide (Db s))):=by
 refine pv Tryz.func368 ?_;repeat' ((conv=>whnf);first|exact kQ|(refine bk ?_ ?_<;>intro _<;>try(exfalso;omega))|refine stq ?_)
 all_goals(conv=>whnf)
 all_goals first
  | exact aE.no (λhc=>hc.1 asm)
  | exact aE.no (λhc=>by have:=hc.2.1;omega)
  | skip
 refine aH.by aA T0 (λk:Nat=>⟨tmp 51 [(0,.str s),(14,i64 s.length),(15,i64 (k:Int))],⟨0,[]⟩⟩) (λk=>k<=s.length∧∀ i (h:i<s.length),i<k->wb (s[i].toNat:Int)) (λk=>s.length-k) 0 ⟨by omega,λ_ _ h=>by omega⟩ ?_ ?_
 ·exact lq0
 intro k ⟨h1,h2⟩;repeat' ((conv=>whnf);first|exact kQ|(refine bk ?_ ?_<;>intro _<;>try(exfalso;omega))|refine stq ?_)
 all_goals(conv=>whnf)
 all_goals first
  | exact aE.no (λhc=>absurd (hc.2.2 k om) (by unfold wb;omega))
  | exact aE.yes ⟨by assumption,by omega,fp om h2⟩
  | (refine⟨k+1,⟨by omega,ad om h2 (by unfold wb;omega)⟩,by omega,?_⟩
     exact lq0)
theorem D9 {x:Str}:Pu Tryz.prog 398 [.str x] (boo false):=by
 refine pv Tryz.func398 ?_;repeat' ((conv=>whnf);first|exact kQ|(refine bk ?_ ?_<;>intro _<;>try(exfalso;omega))|refine stq ?_)
 all_goals(conv=>whnf)
 all_goals first
  | exact aE.same rfl rfl
  | (exfalso;rename_i h;exact h rfl)
theorem cmpS_c {x y:Str}:Pu Tryz.prog 369 [.str x,.str y] (i64 (uk x y)):=by
 refine pv Tryz.func369 ?_;repeat' ((conv=>whnf);first|exact kQ|(refine bk ?_ ?_<;>intro _<;>try(exfalso;omega))|refine stq ?_|refine cp D9 ?_|fail)
 all_goals(conv=>whnf)
 all_goals first
  | exact aE.int (by rename_i h;rw[uk,if_pos h])
  | exact aE.int (by rename_i h1 h2;rw[uk,if_neg h1,if_pos (h2.resolve_left h1)])
  | exact aE.int (by rename_i h1 h2;rw[uk,if_neg h1,if_neg (λe=>h2 (.inr e))])
theorem Gi {a b:Mpg}:Ef a b=jl [e8 a.frm b.frm,uk a.tag b.tag]:=by
 unfold Ef jl jl jl;repeat' split
 all_goals first|rfl|omega
theorem tD {a b:Mpg}:Pu Tryz.prog 300 [.agg (iM a),.agg (iM b)] (i64 (Ef a b)):=by
 refine pv Tryz.func300 ?_;repeat' ((conv=>whnf);first|exact kQ|(refine bk ?_ ?_<;>intro _<;>try(exfalso;omega))|refine stq ?_|refine aX.byM (id:=1) aA T0 [0,1,0,4,15,0,32,0,128,511,1023,2047,4095] (by kernel_rfl) ?_|refine CM.pu dZ ?_|refine CM.pu cmpS_c ?_|refine Chk.mk ⟨_,rfl⟩ ?_|(refine CM.w ?_;refine Cll.emb (Or_c (l:=[e8 a.frm b.frm,uk a.tag b.tag]) si ⟨0,[]⟩) [] [13] (i64 (jl [e8 a.frm b.frm,uk a.tag b.tag])) [] [(0,.cells (iM a) true),(1,.cells (iM b) true)] rfl cZ bxA rdA bxA reA ?_)|fail)
 all_goals(conv=>whnf)
 exact aE.int Gi.symm
abbrev F8 (m:Mpg):D:=.agg [i64 m.frm,.str m.tag]
theorem F7 {m:Mpg}:Pu Tryz.prog 301 [.agg (iM m)] (F8 m):=by
 refine pv Tryz.func301 ?_;repeat' ((conv=>whnf);first|exact kQ|(refine bk ?_ ?_<;>intro _<;>try(exfalso;omega))|refine stq ?_)
 all_goals(conv=>whnf)
 exact aE.same rfl rfl
structure E6 (l:List Mpg):Prop where
 len:l.length<=9223372036854775806
 to:∀ i (h:i<l.length),l[i].to.length<=9223372036854775807
 tag:∀ i (h:i<l.length),l[i].tag.length<=9223372036854775807
theorem pE1 {l:List Mpg}{k:Nat}(hk:k<l.length) (h:¬jW l[k]):dI l=1:=by rw[dI,if_neg (λhc=>h (hc k hk))]
theorem pE2 {l:List Mpg}(h1:∀ i (h:i<l.length),jW l[i]){k:Nat}(hk:k<l.length) (h:¬l[k].to.length<=64):dI l=2:=by rw[dI,if_pos h1,if_neg (λhc=>h (hc k hk))]
theorem pE6 {l:List Mpg}(h1:∀ i (h:i<l.length),jW l[i]) (h2:∀ i (h:i<l.length),l[i].to.length<=64){k:Nat}(hk:k<l.length) (h:¬Ct l[k]):dI l=6:=by rw[dI,if_pos h1,if_pos h2,if_neg (λhc=>h (hc k hk))]
theorem pE0 {l:List Mpg}(h1:∀ i (h:i<l.length),jW l[i]) (h2:∀ i (h:i<l.length),l[i].to.length<=64) (h3:∀ i (h:i<l.length),Ct l[i]):dI l=0:=by rw[dI,if_pos h1,if_pos h2,if_pos h3]
theorem zt {l:List Mpg}(ho:E6 l):Pu Tryz.prog 299 [ag l] (i64 (dI l)):=by
 have hlen:=ho.len;refine pv Tryz.func299 ?_;repeat' ((conv=>whnf);first|exact kQ|(refine bk ?_ ?_<;>intro _<;>try(exfalso;omega))|refine stq ?_)
 refine aH.by aA T0 (λk:Nat=>⟨tmp 60 [(0,ag l),(11,ag l),(12,i64 l.length),(13,i64 (k:Int))],⟨0,[]⟩⟩)
  (λk=>k<=l.length∧∀ i (h:i<l.length),i<k->jW l[i]) (λk=>l.length-k) 0 ⟨by omega,λ_ _ h=>by omega⟩ ?_ ?_
 ·exact lq0
 intro k ⟨h3,h4⟩;by_cases hk:k<l.length
 ·have hto:=ho.to k hk;by_cases hf:cpQ l[k].frm
  ·repeat' ((conv=>whnf);first|exact kQ|(refine bk ?_ ?_<;>intro _<;>try(exfalso;omega))|refine stq ?_|refine cd lS (λ_=>?_) (λ_=>?_)|fail)
   all_goals(conv=>whnf)
   all_goals first
    | (exfalso;rename_i h;exact h hf)
    | skip
   refine aH.by aA T0 (λj:Nat=>⟨tmp 60 [(0,ag l),(11,ag l),(12,i64 l.length),(13,i64 (k:Int)),(22,aF l[k].to),(23,i64 l[k].to.length),(24,i64 (j:Int))],⟨0,[]⟩⟩)
    (λj=>j<=l[k].to.length∧∀ i (h:i<l[k].to.length),i<j->cpQ l[k].to[i]) (λj=>l[k].to.length-j) 0 ⟨by omega,λ_ _ h=>by omega⟩ ?_ ?_
   ·exact lq0
   intro j ⟨h5,h6⟩;repeat' ((conv=>whnf);first|exact kQ|(refine bk ?_ ?_<;>intro _<;>try(exfalso;omega))|refine stq ?_|refine cd lS (λ_=>?_) (λ_=>?_)|fail)
   all_goals(conv=>whnf)
   all_goals first
    | exact aE.int (pE1 hk λhc=>by rename_i h;exact h (hc.2 j om)).symm
    | (refine⟨j+1,⟨by omega,ad om h6 asm⟩,by omega,?_⟩
       exact lq0)
    | (refine⟨k+1,⟨by omega,ad om h4 ⟨hf,fp om h6⟩⟩,by omega,?_⟩
       exact lq0)
  ·repeat' ((conv=>whnf);first|exact kQ|(refine bk ?_ ?_<;>intro _<;>try(exfalso;omega))|refine stq ?_|refine cd lS (λ_=>?_) (λ_=>?_)|fail)
   all_goals(conv=>whnf)
   all_goals first
    | (exfalso;rename_i h;exact hf h)
    | exact aE.int (pE1 hk λhc=>hf hc.1).symm
 ·have g1:=fp (by omega:l.length<=k) h4;repeat' ((conv=>whnf);first|exact kQ|(refine bk ?_ ?_<;>intro _<;>try(exfalso;omega))|refine stq ?_|fail)
  refine aH.by aA T0 (λk:Nat=>⟨tmp 60 [(0,ag l),(33,ag l),(34,i64 l.length),(35,i64 (k:Int))],⟨0,[]⟩⟩)
   (λk=>k<=l.length∧∀ i (h:i<l.length),i<k->l[i].to.length<=64) (λk=>l.length-k) 0 ⟨by omega,λ_ _ h=>by omega⟩ ?_ ?_
  ·exact lq0
  intro k ⟨h3,h4⟩;by_cases hk:k<l.length
  ·have hto:=ho.to k hk;repeat' ((conv=>whnf);first|exact kQ|(refine bk ?_ ?_<;>intro _<;>try(exfalso;omega))|refine stq ?_)
   all_goals(conv=>whnf)
   all_goals first
    | exact aE.int (pE2 g1 hk om).symm
    | (refine⟨k+1,⟨by omega,ad om h4 om⟩,by omega,?_⟩
       exact lq0)
  ·have g2:=fp (by omega:l.length<=k) h4;repeat' ((conv=>whnf);first|exact kQ|(refine bk ?_ ?_<;>intro _<;>try(exfalso;omega))|refine stq ?_|fail)
   refine aH.by aA T0 (λk:Nat=>⟨tmp 60 [(44,ag l),(45,i64 l.length),(46,i64 (k:Int))],⟨0,[]⟩⟩)
    (λk=>k<=l.length∧∀ i (h:i<l.length),i<k->Ct l[i]) (λk=>l.length-k) 0 ⟨by omega,λ_ _ h=>by omega⟩ ?_ ?_
   ·exact lq0
   intro k ⟨h3,h4⟩;by_cases hk:k<l.length
   ·have htg:=ho.tag k hk;repeat' ((conv=>whnf);first|exact kQ|(refine bk ?_ ?_<;>intro _<;>try(exfalso;omega))|refine stq ?_|refine cd (Ba sd) (λ_=>?_) (λ_=>?_)|fail)
    all_goals(conv=>whnf)
    all_goals first
     | exact aE.int (pE6 g1 g2 hk (by rintro(h|h)<;>contradiction)).symm
     | (refine⟨k+1,⟨by omega,ad om h4 (by first|exact .inl asm|exact .inr asm)⟩,by omega,?_⟩
        exact lq0)
   ·repeat' ((conv=>whnf);first|exact kQ|(refine bk ?_ ?_<;>intro _<;>try(exfalso;omega))|refine stq ?_)
    all_goals(conv=>whnf)
    exact aE.int (pE0 g1 g2 (fp om h4)).symm
end Go.Proofs.YtihggclfifimoaaGreatDoor
