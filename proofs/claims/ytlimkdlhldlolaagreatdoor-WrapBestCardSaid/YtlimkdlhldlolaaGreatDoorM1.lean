/-
  The reference's parser, line by line.
-/
import Derived.Test.YtlimkdlhldlolaaGreatDoorW1
import Derived.Test.YtlimkdlhldlolaaGreatDoorP1
import Derived.Test.YtlimkdlhldlolaaGreatDoorP4
set_option linter.unusedSectionVars false
namespace Go.Proofs.YtlimkdlhldlolaaGreatDoor
open Go Go.Am
set_option maxRecDepth 1000000
section
def D6:Str:=[107,101,101,112,32,67,82,32,47,32,76,70,10,98,114,101,97,107,32,91,67,111,110,116,114,111,108,32,67,82,32,76,70,93,32,47,10,98,114,101,97,107,32,47,32,91,67,111,110,116,114,111,108,32,67,82,32,76,70,93,10,107,101,101,112,32,76,32,47,32,91,76,32,86,32,76,86,32,76,86,84,93,10,107,101,101,112,32,91,76,86,32,86,93,32,47,32,91,86,32,84,93,10,107,101,101,112,32,91,76,86,84,32,84,93,32,47,32,84,10,107,101,101,112,32,97,110,121,32,47,32,91,69,120,116,101,110,100,32,74,111,105,110,101,114,93,10,107,101,101,112,32,97,110,121,32,47,32,83,112,97,99,105,110,103,10,107,101,101,112,32,80,114,101,112,101,110,100,32,47,32,97,110,121,10,107,101,101,112,32,80,105,99,116,117,114,101,32,69,120,116,101,110,100,42,32,74,111,105,110,101,114,32,47,32,80,105,99,116,117,114,101,10,107,101,101,112,32,115,116,97,114,116,32,40,82,101,103,105,111,110,32,82,101,103,105,111,110,41,42,32,82,101,103,105,111,110,32,47,32,82,101,103,105,111,110,10,107,101,101,112,32,91,94,82,101,103,105,111,110,93,32,40,82,101,103,105,111,110,32,82,101,103,105,111,110,41,42,32,82,101,103,105,111,110,32,47,32,82,101,103,105,111,110,10,98,114,101,97,107,32,47,10]
def ln1:List Str:=HK [] D6
def rD1:Nat×Nat×Nat×Nat->Rdr×Nat
 | (d,a,j,c)=>(⟨([]:List Str).take d,([]:List Pat).take d,([[]]:List (List Int)).getD a [],tkL [] (ln1.getD j []),((tkL [] (ln1.getD j [])).length:Int)⟩,c)
def sd1:List (Rdr×Nat):=(⟨[],[],[],[],0⟩,0)::([(0,0,0,1),(0,0,1,2),(0,0,2,3),(0,0,3,4),(0,0,4,5),(0,0,5,6),(0,0,6,7),(0,0,7,8),(0,0,8,9),(0,0,9,10),(0,0,10,11),(0,0,11,12),(0,0,12,13),(0,0,13,13)]:List (Nat×Nat×Nat×Nat)).map rD1
def st1 (j:Nat):Rdr×List Rul:=match sd1[j]? with|some p=>(p.1,rs1.take p.2)|none=>(⟨[],[],[],[],0⟩,[])
noncomputable def lB1 (j:Nat):Bool:=bO spC cl1 (st1 j).1 (st1 j).2 (ln1.getD j []) (st1 (j+1)).1 (st1 (j+1)).2
theorem li1_0:lB1 0=true:=by kernel_rfl
theorem li1_1:lB1 1=true:=by kernel_rfl
theorem li1_2:lB1 2=true:=by kernel_rfl
theorem li1_3:lB1 3=true:=by kernel_rfl
theorem li1_4:lB1 4=true:=by kernel_rfl
theorem li1_5:lB1 5=true:=by kernel_rfl
theorem li1_6:lB1 6=true:=by kernel_rfl
theorem li1_7:lB1 7=true:=by kernel_rfl
theorem li1_8:lB1 8=true:=by kernel_rfl
theorem li1_9:lB1 9=true:=by kernel_rfl
theorem li1_10:lB1 10=true:=by kernel_rfl
theorem li1_11:lB1 11=true:=by kernel_rfl
theorem li1_12:lB1 12=true:=by kernel_rfl
theorem li1_13:lB1 13=true:=by kernel_rfl
theorem lines1:∀ j,j<14->lB1 j=true
 | 0,_=>li1_0
 | 1,_=>li1_1
 | 2,_=>li1_2
 | 3,_=>li1_3
 | 4,_=>li1_4
 | 5,_=>li1_5
 | 6,_=>li1_6
 | 7,_=>li1_7
 | 8,_=>li1_8
 | 9,_=>li1_9
 | 10,_=>li1_10
 | 11,_=>li1_11
 | 12,_=>li1_12
 | 13,_=>li1_13
 | j+14,h=>absurd h om
theorem HU:@Pu gtR Tryz.prog 64 [strs cl1,.str D6] (.tup [.agg [strs cl1,lstS cC rs1],.agg [i64 0,i64 0]]):=
 A3 (L:=ln1) (st:=st1) rfl (BD (by kernel_rfl)) (Aq (by kernel_rfl)) (by decide) (by decide) (by decide) (by decide) (λj h=>lines1 j h) (by kernel_rfl) (by kernel_rfl)
end
section
def D5:Str:=[109,117,115,116,32,77,97,110,100,97,116,111,114,121,32,47,10,107,101,101,112,32,67,82,32,47,32,76,70,10,109,117,115,116,32,91,67,82,32,76,70,32,78,101,119,108,105,110,101,93,32,47,10,107,101,101,112,32,47,32,91,77,97,110,100,97,116,111,114,121,32,67,82,32,76,70,32,78,101,119,108,105,110,101,93,10,107,101,101,112,32,47,32,91,83,112,97,99,101,32,90,101,114,111,83,112,97,99,101,93,10,98,114,101,97,107,32,90,101,114,111,83,112,97,99,101,32,83,112,97,99,101,42,32,47,10,107,101,101,112,32,74,111,105,110,101,114,32,47,10,98,114,101,97,107,32,83,112,97,99,101,32,47,32,91,67,111,109,98,105,110,105,110,103,32,74,111,105,110,101,114,93,10,97,116,116,97,99,104,32,91,67,111,109,98,105,110,105,110,103,32,74,111,105,110,101,114,93,10,107,101,101,112,32,47,32,87,111,114,100,74,111,105,110,101,114,10,107,101,101,112,32,87,111,114,100,74,111,105,110,101,114,32,47,10,107,101,101,112,32,71,108,117,101,32,47,10,107,101,101,112,32,91,94,83,112,97,99,101,32,65,102,116,101,114,32,72,121,112,104,101,110,32,67,111,109,98,105,110,105,110,103,32,74,111,105,110,101,114,93,32,47,32,71,108,117,101,10,107,101,101,112,32,47,32,91,67,108,111,115,101,80,32,69,120,99,108,97,109,32,73,110,102,105,120,32,83,121,109,98,111,108,93,10,107,101,101,112,32,79,112,101,110,32,83,112,97,99,101,42,32,47,10,107,101,101,112,32,81,117,111,116,101,32,83,112,97,99,101,42,32,47,32,79,112,101,110,10,107,101,101,112,32,67,108,111,115,101,80,32,83,112,97,99,101,42,32,47,32,78,111,110,83,116,97,114,116,101,114,10,107,101,101,112,32,66,111,116,104,32,83,112,97,99,101,42,32,47,32,66,111,116,104,10,98,114,101,97,107,32,83,112,97,99,101,32,47,10,107,101,101,112,32,47,32,81,117,111,116,101,10,107,101,101,112,32,81,117,111,116,101,32,47,10,107,101,101,112,32,47,32,91,65,102,116,101,114,32,72,121,112,104,101,110,32,78,111,110,83,116,97,114,116,101,114,93,10,107,101,101,112,32,66,101,102,111,114,101,32,47,10,107,101,101,112,32,47,32,73,110,115,101,112,97,114,97,98,108,101,10,107,101,101,112,32,79,116,104,101,114,32,47,32,78,117,109,101,114,105,99,10,107,101,101,112,32,78,117,109,101,114,105,99,32,47,32,79,116,104,101,114,10,107,101,101,112,32,80,114,101,102,105,120,32,47,32,73,100,101,111,103,114,97,112,104,10,107,101,101,112,32,73,100,101,111,103,114,97,112,104,32,47,32,80,111,115,116,102,105,120,10,107,101,101,112,32,91,80,114,101,102,105,120,32,80,111,115,116,102,105,120,93,32,47,32,79,116,104,101,114,10,107,101,101,112,32,79,116,104,101,114,32,47,32,91,80,114,101,102,105,120,32,80,111,115,116,102,105,120,93,10,107,101,101,112,32,91,67,108,111,115,101,80,32,78,117,109,101,114,105,99,93,32,47,32,91,80,114,101,102,105,120,32,80,111,115,116,102,105,120,93,10,107,101,101,112,32,91,80,114,101,102,105,120,32,80,111,115,116,102,105,120,93,32,47,32,91,79,112,101,110,32,78,117,109,101,114,105,99,93,10,107,101,101,112,32,91,72,121,112,104,101,110,32,73,110,102,105,120,32,78,117,109,101,114,105,99,32,83,121,109,98,111,108,93,32,47,32,78,117,109,101,114,105,99,10,107,101,101,112,32,79,116,104,101,114,32,47,32,79,116,104,101,114,10,107,101,101,112,32,73,110,102,105,120,32,47,32,79,116,104,101,114,10,107,101,101,112,32,91,79,116,104,101,114,32,78,117,109,101,114,105,99,93,32,47,32,79,112,101,110,10,107,101,101,112,32,67,108,111,115,101,80,32,47,32,91,79,116,104,101,114,32,78,117,109,101,114,105,99,93,10,107,101,101,112,32,115,116,97,114,116,32,40,82,101,103,105,111,110,32,82,101,103,105,111,110,41,42,32,82,101,103,105,111,110,32,47,32,82,101,103,105,111,110,10,107,101,101,112,32,91,94,82,101,103,105,111,110,32,67,111,109,98,105,110,105,110,103,32,74,111,105,110,101,114,93,32,40,82,101,103,105,111,110,32,82,101,103,105,111,110,41,42,32,82,101,103,105,111,110,32,47,32,82,101,103,105,111,110,10]
def ln4:List Str:=HK [] D5
def rdL (a:List Int) (j c:Nat):Rdr×Nat:=(⟨[],[],a,tkL [] (ln4.getD j []),((tkL [] (ln4.getD j [])).length:Int)⟩,c)
def sd4:List (Rdr×Nat):=[(⟨[],[],[],[],0⟩,0),rdL [] 0 1,rdL [] 1 2,rdL [] 2 3,rdL [] 3 4,rdL [] 4 5,rdL [] 5 6,rdL [] 6 7,rdL [] 7 8,rdL [7,8] 8 9,rdL [7,8] 9 10,rdL [7,8] 10 11,rdL [7,8] 11 12,rdL [7,8] 12 13,rdL [7,8] 13 14,rdL [7,8] 14 15,rdL [7,8] 15 16,rdL [7,8] 16 17,rdL [7,8] 17 18,rdL [7,8] 18 19,rdL [7,8] 19 20,rdL [7,8] 20 21,rdL [7,8] 21 22,rdL [7,8] 22 23,rdL [7,8] 23 24,rdL [7,8] 24 25,rdL [7,8] 25 26,rdL [7,8] 26 27,rdL [7,8] 27 28,rdL [7,8] 28 29,rdL [7,8] 29 30,rdL [7,8] 30 31,rdL [7,8] 31 32,rdL [7,8] 32 33,rdL [7,8] 33 34,rdL [7,8] 34 35,rdL [7,8] 35 36,rdL [7,8] 36 37,rdL [7,8] 37 38,rdL [7,8] 38 39,rdL [7,8] 39 39]
def st4 (j:Nat):Rdr×List Rul:=match sd4[j]? with|some p=>(p.1,rs4.take p.2)|none=>(⟨[],[],[],[],0⟩,[])
theorem li4_0:bO spC cl4 (st4 0).1 (st4 0).2 (ln4.getD 0 []) (st4 1).1 (st4 1).2=true:=by kernel_rfl
theorem li4_1:bO spC cl4 (st4 1).1 (st4 1).2 (ln4.getD 1 []) (st4 2).1 (st4 2).2=true:=by kernel_rfl
theorem li4_2:bO spC cl4 (st4 2).1 (st4 2).2 (ln4.getD 2 []) (st4 3).1 (st4 3).2=true:=by kernel_rfl
theorem li4_3:bO spC cl4 (st4 3).1 (st4 3).2 (ln4.getD 3 []) (st4 4).1 (st4 4).2=true:=by kernel_rfl
theorem li4_4:bO spC cl4 (st4 4).1 (st4 4).2 (ln4.getD 4 []) (st4 5).1 (st4 5).2=true:=by kernel_rfl
theorem li4_5:bO spC cl4 (st4 5).1 (st4 5).2 (ln4.getD 5 []) (st4 6).1 (st4 6).2=true:=by kernel_rfl
theorem li4_6:bO spC cl4 (st4 6).1 (st4 6).2 (ln4.getD 6 []) (st4 7).1 (st4 7).2=true:=by kernel_rfl
theorem li4_7:bO spC cl4 (st4 7).1 (st4 7).2 (ln4.getD 7 []) (st4 8).1 (st4 8).2=true:=by kernel_rfl
theorem li4_8:bO spC cl4 (st4 8).1 (st4 8).2 (ln4.getD 8 []) (st4 9).1 (st4 9).2=true:=by kernel_rfl
theorem li4_9:bO spC cl4 (st4 9).1 (st4 9).2 (ln4.getD 9 []) (st4 10).1 (st4 10).2=true:=by kernel_rfl
theorem li4_10:bO spC cl4 (st4 10).1 (st4 10).2 (ln4.getD 10 []) (st4 11).1 (st4 11).2=true:=by kernel_rfl
theorem li4_11:bO spC cl4 (st4 11).1 (st4 11).2 (ln4.getD 11 []) (st4 12).1 (st4 12).2=true:=by kernel_rfl
theorem li4_12:bO spC cl4 (st4 12).1 (st4 12).2 (ln4.getD 12 []) (st4 13).1 (st4 13).2=true:=by kernel_rfl
theorem li4_13:bO spC cl4 (st4 13).1 (st4 13).2 (ln4.getD 13 []) (st4 14).1 (st4 14).2=true:=by kernel_rfl
theorem li4_14:bO spC cl4 (st4 14).1 (st4 14).2 (ln4.getD 14 []) (st4 15).1 (st4 15).2=true:=by kernel_rfl
theorem li4_15:bO spC cl4 (st4 15).1 (st4 15).2 (ln4.getD 15 []) (st4 16).1 (st4 16).2=true:=by kernel_rfl
theorem li4_16:bO spC cl4 (st4 16).1 (st4 16).2 (ln4.getD 16 []) (st4 17).1 (st4 17).2=true:=by kernel_rfl
theorem li4_17:bO spC cl4 (st4 17).1 (st4 17).2 (ln4.getD 17 []) (st4 18).1 (st4 18).2=true:=by kernel_rfl
theorem li4_18:bO spC cl4 (st4 18).1 (st4 18).2 (ln4.getD 18 []) (st4 19).1 (st4 19).2=true:=by kernel_rfl
theorem li4_19:bO spC cl4 (st4 19).1 (st4 19).2 (ln4.getD 19 []) (st4 20).1 (st4 20).2=true:=by kernel_rfl
theorem li4_20:bO spC cl4 (st4 20).1 (st4 20).2 (ln4.getD 20 []) (st4 21).1 (st4 21).2=true:=by kernel_rfl
theorem li4_21:bO spC cl4 (st4 21).1 (st4 21).2 (ln4.getD 21 []) (st4 22).1 (st4 22).2=true:=by kernel_rfl
theorem li4_22:bO spC cl4 (st4 22).1 (st4 22).2 (ln4.getD 22 []) (st4 23).1 (st4 23).2=true:=by kernel_rfl
theorem li4_23:bO spC cl4 (st4 23).1 (st4 23).2 (ln4.getD 23 []) (st4 24).1 (st4 24).2=true:=by kernel_rfl
end
section
theorem li4_24:bO spC cl4 (st4 24).1 (st4 24).2 (ln4.getD 24 []) (st4 25).1 (st4 25).2=true:=by kernel_rfl
theorem li4_25:bO spC cl4 (st4 25).1 (st4 25).2 (ln4.getD 25 []) (st4 26).1 (st4 26).2=true:=by kernel_rfl
theorem li4_26:bO spC cl4 (st4 26).1 (st4 26).2 (ln4.getD 26 []) (st4 27).1 (st4 27).2=true:=by kernel_rfl
theorem li4_27:bO spC cl4 (st4 27).1 (st4 27).2 (ln4.getD 27 []) (st4 28).1 (st4 28).2=true:=by kernel_rfl
theorem li4_28:bO spC cl4 (st4 28).1 (st4 28).2 (ln4.getD 28 []) (st4 29).1 (st4 29).2=true:=by kernel_rfl
theorem li4_29:bO spC cl4 (st4 29).1 (st4 29).2 (ln4.getD 29 []) (st4 30).1 (st4 30).2=true:=by kernel_rfl
theorem li4_30:bO spC cl4 (st4 30).1 (st4 30).2 (ln4.getD 30 []) (st4 31).1 (st4 31).2=true:=by kernel_rfl
theorem li4_31:bO spC cl4 (st4 31).1 (st4 31).2 (ln4.getD 31 []) (st4 32).1 (st4 32).2=true:=by kernel_rfl
theorem li4_32:bO spC cl4 (st4 32).1 (st4 32).2 (ln4.getD 32 []) (st4 33).1 (st4 33).2=true:=by kernel_rfl
theorem li4_33:bO spC cl4 (st4 33).1 (st4 33).2 (ln4.getD 33 []) (st4 34).1 (st4 34).2=true:=by kernel_rfl
theorem li4_34:bO spC cl4 (st4 34).1 (st4 34).2 (ln4.getD 34 []) (st4 35).1 (st4 35).2=true:=by kernel_rfl
theorem li4_35:bO spC cl4 (st4 35).1 (st4 35).2 (ln4.getD 35 []) (st4 36).1 (st4 36).2=true:=by kernel_rfl
theorem li4_36:bO spC cl4 (st4 36).1 (st4 36).2 (ln4.getD 36 []) (st4 37).1 (st4 37).2=true:=by kernel_rfl
theorem li4_37:bO spC cl4 (st4 37).1 (st4 37).2 (ln4.getD 37 []) (st4 38).1 (st4 38).2=true:=by kernel_rfl
theorem li4_38:bO spC cl4 (st4 38).1 (st4 38).2 (ln4.getD 38 []) (st4 39).1 (st4 39).2=true:=by kernel_rfl
theorem li4_39:bO spC cl4 (st4 39).1 (st4 39).2 (ln4.getD 39 []) (st4 40).1 (st4 40).2=true:=by kernel_rfl
theorem lines4 (j:Nat) (h:j<40):bO spC cl4 (st4 j).1 (st4 j).2 (ln4.getD j []) (st4 (j+1)).1 (st4 (j+1)).2=true:=by
 have:j=0\/j=1\/j=2\/j=3\/j=4\/j=5\/j=6\/j=7\/j=8\/j=9\/j=10\/j=11\/j=12\/j=13\/j=14\/j=15\/j=16\/j=17\/j=18\/j=19\/j=20\/j=21\/j=22\/j=23\/j=24\/j=25\/j=26\/j=27\/j=28\/j=29\/j=30\/j=31\/j=32\/j=33\/j=34\/j=35\/j=36\/j=37\/j=38\/j=39:=om
 rcases this with rfl|rfl|rfl|rfl|rfl|rfl|rfl|rfl|rfl|rfl|rfl|rfl|rfl|rfl|rfl|rfl|rfl|rfl|rfl|rfl|rfl|rfl|rfl|rfl|rfl|rfl|rfl|rfl|rfl|rfl|rfl|rfl|rfl|rfl|rfl|rfl|rfl|rfl|rfl|rfl
 .exact li4_0
 .exact li4_1
 .exact li4_2
 .exact li4_3
 .exact li4_4
 .exact li4_5
 .exact li4_6
 .exact li4_7
 .exact li4_8
 .exact li4_9
 .exact li4_10
 .exact li4_11
 .exact li4_12
 .exact li4_13
 .exact li4_14
 .exact li4_15
 .exact li4_16
 .exact li4_17
 .exact li4_18
 .exact li4_19
 .exact li4_20
 .exact li4_21
 .exact li4_22
 .exact li4_23
 .exact li4_24
 .exact li4_25
 .exact li4_26
 .exact li4_27
 .exact li4_28
 .exact li4_29
 .exact li4_30
 .exact li4_31
 .exact li4_32
 .exact li4_33
 .exact li4_34
 .exact li4_35
 .exact li4_36
 .exact li4_37
 .exact li4_38
 .exact li4_39
theorem HS:@Pu gtR Tryz.prog 64 [strs cl4,.str D5] (.tup [.agg [strs cl4,lstS cC rs4],.agg [i64 0,i64 0]]):=
 A3 (L:=ln4) (st:=st4) rfl (BD (by kernel_rfl)) (Aq (by kernel_rfl)) (by decide) (by decide) (by decide) (by decide) (λj h=>lines4 j h) (by kernel_rfl) (by kernel_rfl)
end
end Go.Proofs.YtlimkdlhldlolaaGreatDoor
