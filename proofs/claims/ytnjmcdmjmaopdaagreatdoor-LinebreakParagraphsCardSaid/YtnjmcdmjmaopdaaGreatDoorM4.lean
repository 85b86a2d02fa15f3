/-
  The reference's parser, line by line.
-/
import Derived.Test.YtnjmcdmjmaopdaaGreatDoorM4a
set_option linter.unusedSectionVars false
namespace Go.Proofs.YtnjmcdmjmaopdaaGreatDoor
open Go Go.Am
set_option maxRecDepth 1000000
theorem li4_24:bh spC cl4 (st4 24).1 (st4 24).2 (ln4.getD 24 []) (st4 25).1 (st4 25).2=true:=by kernel_rfl
theorem li4_25:bh spC cl4 (st4 25).1 (st4 25).2 (ln4.getD 25 []) (st4 26).1 (st4 26).2=true:=by kernel_rfl
theorem li4_26:bh spC cl4 (st4 26).1 (st4 26).2 (ln4.getD 26 []) (st4 27).1 (st4 27).2=true:=by kernel_rfl
theorem li4_27:bh spC cl4 (st4 27).1 (st4 27).2 (ln4.getD 27 []) (st4 28).1 (st4 28).2=true:=by kernel_rfl
theorem li4_28:bh spC cl4 (st4 28).1 (st4 28).2 (ln4.getD 28 []) (st4 29).1 (st4 29).2=true:=by kernel_rfl
theorem li4_29:bh spC cl4 (st4 29).1 (st4 29).2 (ln4.getD 29 []) (st4 30).1 (st4 30).2=true:=by kernel_rfl
theorem li4_30:bh spC cl4 (st4 30).1 (st4 30).2 (ln4.getD 30 []) (st4 31).1 (st4 31).2=true:=by kernel_rfl
theorem li4_31:bh spC cl4 (st4 31).1 (st4 31).2 (ln4.getD 31 []) (st4 32).1 (st4 32).2=true:=by kernel_rfl
theorem li4_32:bh spC cl4 (st4 32).1 (st4 32).2 (ln4.getD 32 []) (st4 33).1 (st4 33).2=true:=by kernel_rfl
theorem li4_33:bh spC cl4 (st4 33).1 (st4 33).2 (ln4.getD 33 []) (st4 34).1 (st4 34).2=true:=by kernel_rfl
theorem li4_34:bh spC cl4 (st4 34).1 (st4 34).2 (ln4.getD 34 []) (st4 35).1 (st4 35).2=true:=by kernel_rfl
theorem li4_35:bh spC cl4 (st4 35).1 (st4 35).2 (ln4.getD 35 []) (st4 36).1 (st4 36).2=true:=by kernel_rfl
theorem li4_36:bh spC cl4 (st4 36).1 (st4 36).2 (ln4.getD 36 []) (st4 37).1 (st4 37).2=true:=by kernel_rfl
theorem li4_37:bh spC cl4 (st4 37).1 (st4 37).2 (ln4.getD 37 []) (st4 38).1 (st4 38).2=true:=by kernel_rfl
theorem li4_38:bh spC cl4 (st4 38).1 (st4 38).2 (ln4.getD 38 []) (st4 39).1 (st4 39).2=true:=by kernel_rfl
theorem li4_39:bh spC cl4 (st4 39).1 (st4 39).2 (ln4.getD 39 []) (st4 40).1 (st4 40).2=true:=by kernel_rfl
theorem lines4 (j:Nat) (h:j<40):bh spC cl4 (st4 j).1 (st4 j).2 (ln4.getD j []) (st4 (j+1)).1 (st4 (j+1)).2=true:=by
 have:j=0∨j=1∨j=2∨j=3∨j=4∨j=5∨j=6∨j=7∨j=8∨j=9∨j=10∨j=11∨j=12∨j=13∨j=14∨j=15∨j=16∨j=17∨j=18∨j=19∨j=20∨j=21∨j=22∨j=23∨j=24∨j=25∨j=26∨j=27∨j=28∨j=29∨j=30∨j=31∨j=32∨j=33∨j=34∨j=35∨j=36∨j=37∨j=38∨j=39:=by omega
 rcases this with rfl|rfl|rfl|rfl|rfl|rfl|rfl|rfl|rfl|rfl|rfl|rfl|rfl|rfl|rfl|rfl|rfl|rfl|rfl|rfl|rfl|rfl|rfl|rfl|rfl|rfl|rfl|rfl|rfl|rfl|rfl|rfl|rfl|rfl|rfl|rfl|rfl|rfl|rfl|rfl
 ·exact li4_0
 ·exact li4_1
 ·exact li4_2
 ·exact li4_3
 ·exact li4_4
 ·exact li4_5
 ·exact li4_6
 ·exact li4_7
 ·exact li4_8
 ·exact li4_9
 ·exact li4_10
 ·exact li4_11
 ·exact li4_12
 ·exact li4_13
 ·exact li4_14
 ·exact li4_15
 ·exact li4_16
 ·exact li4_17
 ·exact li4_18
 ·exact li4_19
 ·exact li4_20
 ·exact li4_21
 ·exact li4_22
 ·exact li4_23
 ·exact li4_24
 ·exact li4_25
 ·exact li4_26
 ·exact li4_27
 ·exact li4_28
 ·exact li4_29
 ·exact li4_30
 ·exact li4_31
 ·exact li4_32
 ·exact li4_33
 ·exact li4_34
 ·exact li4_35
 ·exact li4_36
 ·exact li4_37
 ·exact li4_38
 ·exact li4_39
theorem Dp:@Pu gtR Tryz.prog 47 [strs cl4,.str Ak] (.tup [.agg [strs cl4,lstS ch rs4],.agg [i64 0,i64 0]]):=
 D0 (L:=ln4) (st:=st4) rfl (ED (by kernel_rfl)) (Dh (by kernel_rfl)) (by decide) (by decide) (by decide) (by decide) (fun j h=>lines4 j h) (by kernel_rfl) (by kernel_rfl)
end Go.Proofs.YtnjmcdmjmaopdaaGreatDoor
