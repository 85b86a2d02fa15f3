/-
  The weights of an element: the others.
-/
import Derived.Test.YticpeeooobajgaaGreatDoorI2
set_option linter.unusedSectionVars false
namespace Go.Proofs.YticpeeooobajgaaGreatDoor
open Go Go.Am Classical
set_option maxRecDepth 100000
set_option linter.unusedVariables false
set_option maxHeartbeats 800000
theorem zL {vr p s t:Int}(h1:¬vr=1) (h2:¬vr=2) (hp:p=0) (e4:∀ ox oy,bA Tryz.prog .neq 243 ox oy (.agg [i64 p,i64 s,i64 t,i64 0]) (.agg [i64 0,i64 0,i64 0,i64 0])=some (boo true)):AC1 Tryz.prog 257 [.agg [i64 p,i64 s,i64 t,boo false],.iptr [i64 vr],.ptr 0 0] ⟨1,[(0,.cells [boo true] true)]⟩ (gX [0,0,0,0]) ⟨1,[(0,.cells [boo true] true)]⟩:=by
 refine AC1.of_vf aA T0 Tryz.func257 rfl rfl ?_;repeat' ((conv=>whnf);first|refine ax.weak (x:=Code.seq (Code.seq (Code.region 4 _ false) _) _) aA T0 (s0:=⟨tmp 34 [(0,.agg [i64 p,i64 s,i64 t,boo false]),(1,.iptr [i64 vr]),(2,.ptr 0 0),(3,.ptr 1 0),(4,.ptr 2 0),(5,.ptr 3 0)],⟨4,[(0,.cells [boo true] true),(1,.cells [i64 p,i64 s,i64 t,boo false] true),(2,.cells [i64 0,i64 0,i64 0,i64 0] true),(3,.cells [i64 p,i64 s,i64 t,i64 65535] true)]⟩⟩) ?_ ?_|refine ax.weak (x:=Code.seq (Code.seq (Code.region 2 _ false) _) _) aA T0 (s0:=⟨tmp 34 [(0,.agg [i64 p,i64 s,i64 t,boo false]),(1,.iptr [i64 vr]),(2,.ptr 0 0),(3,.ptr 1 0),(4,.ptr 2 0),(5,.ptr 3 0)],⟨4,[(0,.cells [boo true] true),(1,.cells [i64 p,i64 s,i64 t,boo false] true),(2,.cells [i64 0,i64 0,i64 0,i64 0] true),(3,.cells [i64 p,i64 s,i64 t,i64 0] true)]⟩⟩) ?_ ?_|refine spl (e4 _ _) ?_|exact kQ|(refine bk ?_ ?_<;>intro _<;>try(exfalso;omega))|refine stq ?_|refine az.lit ?_|fail)
 ·exact lq [(1,1),(2,2),(3,10)] []
 ·exact lq [(1,1),(2,2),(3,3)] []
 all_goals(conv=>whnf)
 refine⟨Or.inr rfl,_,rfl,?_⟩;exact lq0
theorem xh {vr p s t:Int}(h1:¬vr=1) (h2:¬vr=2) (hp:p=0) (e4:∀ ox oy,bA Tryz.prog .neq 243 ox oy (.agg [i64 p,i64 s,i64 t,i64 0]) (.agg [i64 0,i64 0,i64 0,i64 0])=some (boo false)):AC1 Tryz.prog 257 [.agg [i64 p,i64 s,i64 t,boo false],.iptr [i64 vr],.ptr 0 0] ⟨1,[(0,.cells [boo true] true)]⟩ (gX [0,0,0,0]) ⟨1,[(0,.cells [boo true] true)]⟩:=by
 refine AC1.of_vf aA T0 Tryz.func257 rfl rfl ?_;repeat' ((conv=>whnf);first|refine ax.weak (x:=Code.seq (Code.seq (Code.region 4 _ false) _) _) aA T0 (s0:=⟨tmp 34 [(0,.agg [i64 p,i64 s,i64 t,boo false]),(1,.iptr [i64 vr]),(2,.ptr 0 0),(3,.ptr 1 0),(4,.ptr 2 0),(5,.ptr 3 0)],⟨4,[(0,.cells [boo true] true),(1,.cells [i64 p,i64 s,i64 t,boo false] true),(2,.cells [i64 0,i64 0,i64 0,i64 0] true),(3,.cells [i64 p,i64 s,i64 t,i64 0] true)]⟩⟩) ?_ ?_|refine ax.weak (x:=Code.seq (Code.seq (Code.region 2 _ false) _) _) aA T0 (s0:=⟨tmp 34 [(0,.agg [i64 p,i64 s,i64 t,boo false]),(1,.iptr [i64 vr]),(2,.ptr 0 0),(3,.ptr 1 0),(4,.ptr 2 0),(5,.ptr 3 0)],⟨4,[(0,.cells [boo true] true),(1,.cells [i64 p,i64 s,i64 t,boo false] true),(2,.cells [i64 0,i64 0,i64 0,i64 0] true),(3,.cells [i64 p,i64 s,i64 t,i64 0] true)]⟩⟩) ?_ ?_|refine spl (e4 _ _) ?_|exact kQ|(refine bk ?_ ?_<;>intro _<;>try(exfalso;omega))|refine stq ?_|refine az.lit ?_|fail)
 ·exact lq [(1,1),(2,2),(3,10)] []
 ·exact lq [(1,1),(2,2),(3,3)] []
 all_goals(conv=>whnf)
 refine⟨Or.inr rfl,_,rfl,?_⟩;exact lq0
theorem zK {vr p s t:Int}(h1:¬vr=1) (h2:vr=2) (hp:p=0) (e4:∀ ox oy,bA Tryz.prog .neq 243 ox oy (.agg [i64 p,i64 s,i64 t,i64 0]) (.agg [i64 0,i64 0,i64 0,i64 0])=some (boo true)):AC1 Tryz.prog 257 [.agg [i64 p,i64 s,i64 t,boo false],.iptr [i64 vr],.ptr 0 0] ⟨1,[(0,.cells [boo false] true)]⟩ (gX [p,s,t,0]) ⟨1,[(0,.cells [boo false] true)]⟩:=by
 refine AC1.of_vf aA T0 Tryz.func257 rfl rfl ?_;repeat' ((conv=>whnf);first|refine ax.weak (x:=Code.seq (Code.seq (Code.region 4 _ false) _) _) aA T0 (s0:=⟨tmp 34 [(0,.agg [i64 p,i64 s,i64 t,boo false]),(1,.iptr [i64 vr]),(2,.ptr 0 0),(3,.ptr 1 0),(4,.ptr 2 0),(5,.ptr 3 0)],⟨4,[(0,.cells [boo false] true),(1,.cells [i64 p,i64 s,i64 t,boo false] true),(2,.cells [i64 0,i64 0,i64 0,i64 0] true),(3,.cells [i64 p,i64 s,i64 t,i64 65535] true)]⟩⟩) ?_ ?_|refine ax.weak (x:=Code.seq (Code.seq (Code.region 2 _ false) _) _) aA T0 (s0:=⟨tmp 34 [(0,.agg [i64 p,i64 s,i64 t,boo false]),(1,.iptr [i64 vr]),(2,.ptr 0 0),(3,.ptr 1 0),(4,.ptr 2 0),(5,.ptr 3 0)],⟨4,[(0,.cells [boo false] true),(1,.cells [i64 p,i64 s,i64 t,boo false] true),(2,.cells [i64 0,i64 0,i64 0,i64 0] true),(3,.cells [i64 p,i64 s,i64 t,i64 0] true)]⟩⟩) ?_ ?_|refine spl (e4 _ _) ?_|exact kQ|(refine bk ?_ ?_<;>intro _<;>try(exfalso;omega))|refine stq ?_|refine az.lit ?_|fail)
 ·exact lq [(1,1),(2,2),(3,10)] []
 ·exact lq [(1,1),(2,2),(3,3)] []
 all_goals(conv=>whnf)
 refine⟨Or.inr rfl,_,rfl,?_⟩;exact lq0
theorem xg {vr p s t:Int}(h1:¬vr=1) (h2:vr=2) (hp:p=0) (e4:∀ ox oy,bA Tryz.prog .neq 243 ox oy (.agg [i64 p,i64 s,i64 t,i64 0]) (.agg [i64 0,i64 0,i64 0,i64 0])=some (boo false)):AC1 Tryz.prog 257 [.agg [i64 p,i64 s,i64 t,boo false],.iptr [i64 vr],.ptr 0 0] ⟨1,[(0,.cells [boo false] true)]⟩ (gX [p,s,t,0]) ⟨1,[(0,.cells [boo false] true)]⟩:=by
 refine AC1.of_vf aA T0 Tryz.func257 rfl rfl ?_;repeat' ((conv=>whnf);first|refine ax.weak (x:=Code.seq (Code.seq (Code.region 4 _ false) _) _) aA T0 (s0:=⟨tmp 34 [(0,.agg [i64 p,i64 s,i64 t,boo false]),(1,.iptr [i64 vr]),(2,.ptr 0 0),(3,.ptr 1 0),(4,.ptr 2 0),(5,.ptr 3 0)],⟨4,[(0,.cells [boo false] true),(1,.cells [i64 p,i64 s,i64 t,boo false] true),(2,.cells [i64 0,i64 0,i64 0,i64 0] true),(3,.cells [i64 p,i64 s,i64 t,i64 0] true)]⟩⟩) ?_ ?_|refine ax.weak (x:=Code.seq (Code.seq (Code.region 2 _ false) _) _) aA T0 (s0:=⟨tmp 34 [(0,.agg [i64 p,i64 s,i64 t,boo false]),(1,.iptr [i64 vr]),(2,.ptr 0 0),(3,.ptr 1 0),(4,.ptr 2 0),(5,.ptr 3 0)],⟨4,[(0,.cells [boo false] true),(1,.cells [i64 p,i64 s,i64 t,boo false] true),(2,.cells [i64 0,i64 0,i64 0,i64 0] true),(3,.cells [i64 p,i64 s,i64 t,i64 0] true)]⟩⟩) ?_ ?_|refine spl (e4 _ _) ?_|exact kQ|(refine bk ?_ ?_<;>intro _<;>try(exfalso;omega))|refine stq ?_|refine az.lit ?_|fail)
 ·exact lq [(1,1),(2,2),(3,10)] []
 ·exact lq [(1,1),(2,2),(3,3)] []
 all_goals(conv=>whnf)
 refine⟨Or.inr rfl,_,rfl,?_⟩;exact lq0
theorem zJ {vr p s t:Int}(h1:¬vr=1) (h2:¬vr=2) (hp:p=0) (e4:∀ ox oy,bA Tryz.prog .neq 243 ox oy (.agg [i64 p,i64 s,i64 t,i64 0]) (.agg [i64 0,i64 0,i64 0,i64 0])=some (boo true)):AC1 Tryz.prog 257 [.agg [i64 p,i64 s,i64 t,boo false],.iptr [i64 vr],.ptr 0 0] ⟨1,[(0,.cells [boo false] true)]⟩ (gX [p,s,t,65535]) ⟨1,[(0,.cells [boo false] true)]⟩:=by
 refine AC1.of_vf aA T0 Tryz.func257 rfl rfl ?_;repeat' ((conv=>whnf);first|refine ax.weak (x:=Code.seq (Code.seq (Code.region 4 _ false) _) _) aA T0 (s0:=⟨tmp 34 [(0,.agg [i64 p,i64 s,i64 t,boo false]),(1,.iptr [i64 vr]),(2,.ptr 0 0),(3,.ptr 1 0),(4,.ptr 2 0),(5,.ptr 3 0)],⟨4,[(0,.cells [boo false] true),(1,.cells [i64 p,i64 s,i64 t,boo false] true),(2,.cells [i64 0,i64 0,i64 0,i64 0] true),(3,.cells [i64 p,i64 s,i64 t,i64 65535] true)]⟩⟩) ?_ ?_|refine ax.weak (x:=Code.seq (Code.seq (Code.region 2 _ false) _) _) aA T0 (s0:=⟨tmp 34 [(0,.agg [i64 p,i64 s,i64 t,boo false]),(1,.iptr [i64 vr]),(2,.ptr 0 0),(3,.ptr 1 0),(4,.ptr 2 0),(5,.ptr 3 0)],⟨4,[(0,.cells [boo false] true),(1,.cells [i64 p,i64 s,i64 t,boo false] true),(2,.cells [i64 0,i64 0,i64 0,i64 0] true),(3,.cells [i64 p,i64 s,i64 t,i64 0] true)]⟩⟩) ?_ ?_|refine spl (e4 _ _) ?_|exact kQ|(refine bk ?_ ?_<;>intro _<;>try(exfalso;omega))|refine stq ?_|refine az.lit ?_|fail)
 ·exact lq [(1,1),(2,2),(3,10)] []
 ·exact lq [(1,1),(2,2),(3,3)] []
 all_goals(conv=>whnf)
 refine⟨Or.inr rfl,_,rfl,?_⟩;exact lq0
theorem xf {vr p s t:Int}(h1:¬vr=1) (h2:¬vr=2) (hp:p=0) (e4:∀ ox oy,bA Tryz.prog .neq 243 ox oy (.agg [i64 p,i64 s,i64 t,i64 0]) (.agg [i64 0,i64 0,i64 0,i64 0])=some (boo false)):AC1 Tryz.prog 257 [.agg [i64 p,i64 s,i64 t,boo false],.iptr [i64 vr],.ptr 0 0] ⟨1,[(0,.cells [boo false] true)]⟩ (gX [p,s,t,0]) ⟨1,[(0,.cells [boo false] true)]⟩:=by
 refine AC1.of_vf aA T0 Tryz.func257 rfl rfl ?_;repeat' ((conv=>whnf);first|refine ax.weak (x:=Code.seq (Code.seq (Code.region 4 _ false) _) _) aA T0 (s0:=⟨tmp 34 [(0,.agg [i64 p,i64 s,i64 t,boo false]),(1,.iptr [i64 vr]),(2,.ptr 0 0),(3,.ptr 1 0),(4,.ptr 2 0),(5,.ptr 3 0)],⟨4,[(0,.cells [boo false] true),(1,.cells [i64 p,i64 s,i64 t,boo false] true),(2,.cells [i64 0,i64 0,i64 0,i64 0] true),(3,.cells [i64 p,i64 s,i64 t,i64 0] true)]⟩⟩) ?_ ?_|refine ax.weak (x:=Code.seq (Code.seq (Code.region 2 _ false) _) _) aA T0 (s0:=⟨tmp 34 [(0,.agg [i64 p,i64 s,i64 t,boo false]),(1,.iptr [i64 vr]),(2,.ptr 0 0),(3,.ptr 1 0),(4,.ptr 2 0),(5,.ptr 3 0)],⟨4,[(0,.cells [boo false] true),(1,.cells [i64 p,i64 s,i64 t,boo false] true),(2,.cells [i64 0,i64 0,i64 0,i64 0] true),(3,.cells [i64 p,i64 s,i64 t,i64 0] true)]⟩⟩) ?_ ?_|refine spl (e4 _ _) ?_|exact kQ|(refine bk ?_ ?_<;>intro _<;>try(exfalso;omega))|refine stq ?_|refine az.lit ?_|fail)
 ·exact lq [(1,1),(2,2),(3,10)] []
 ·exact lq [(1,1),(2,2),(3,3)] []
 all_goals(conv=>whnf)
 refine⟨Or.inr rfl,_,rfl,?_⟩;exact lq0
end Go.Proofs.YticpeeooobajgaaGreatDoor
