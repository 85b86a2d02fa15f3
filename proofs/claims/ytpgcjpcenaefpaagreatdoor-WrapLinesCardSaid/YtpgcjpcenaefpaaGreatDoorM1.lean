/-
  The reference's parser, line by line.
-/
import Derived.Test.YtpgcjpcenaefpaaGreatDoorW1
import Derived.Test.YtpgcjpcenaefpaaGreatDoorP1
set_option linter.unusedSectionVars false
namespace Go.Proofs.YtpgcjpcenaefpaaGreatDoor
open Go Go.Am
set_option maxRecDepth 1000000
def Dj:Str:=[107,101,101,112,32,67,82,32,47,32,76,70,10,98,114,101,97,107,32,91,67,111,110,116,114,111,108,32,67,82,32,76,70,93,32,47,10,98,114,101,97,107,32,47,32,91,67,111,110,116,114,111,108,32,67,82,32,76,70,93,10,107,101,101,112,32,76,32,47,32,91,76,32,86,32,76,86,32,76,86,84,93,10,107,101,101,112,32,91,76,86,32,86,93,32,47,32,91,86,32,84,93,10,107,101,101,112,32,91,76,86,84,32,84,93,32,47,32,84,10,107,101,101,112,32,97,110,121,32,47,32,91,69,120,116,101,110,100,32,74,111,105,110,101,114,93,10,107,101,101,112,32,97,110,121,32,47,32,83,112,97,99,105,110,103,10,107,101,101,112,32,80,114,101,112,101,110,100,32,47,32,97,110,121,10,107,101,101,112,32,80,105,99,116,117,114,101,32,69,120,116,101,110,100,42,32,74,111,105,110,101,114,32,47,32,80,105,99,116,117,114,101,10,107,101,101,112,32,115,116,97,114,116,32,40,82,101,103,105,111,110,32,82,101,103,105,111,110,41,42,32,82,101,103,105,111,110,32,47,32,82,101,103,105,111,110,10,107,101,101,112,32,91,94,82,101,103,105,111,110,93,32,40,82,101,103,105,111,110,32,82,101,103,105,111,110,41,42,32,82,101,103,105,111,110,32,47,32,82,101,103,105,111,110,10,98,114,101,97,107,32,47,10]
def ln1:List Str:=Gq [] Dj
def rD1:Nat×Nat×Nat×Nat->Rdr×Nat
 | (d,a,j,c)=>(⟨([]:List Str).take d,([]:List Pat).take d,([[]]:List (List Int)).getD a [],tkL [] (ln1.getD j []),((tkL [] (ln1.getD j [])).length:Int)⟩,c)
def sd1:List (Rdr×Nat):=(⟨[],[],[],[],0⟩,0)::([(0,0,0,1),(0,0,1,2),(0,0,2,3),(0,0,3,4),(0,0,4,5),(0,0,5,6),(0,0,6,7),(0,0,7,8),(0,0,8,9),(0,0,9,10),(0,0,10,11),(0,0,11,12),(0,0,12,13),(0,0,13,13)]:List (Nat×Nat×Nat×Nat)).map rD1
def st1 (j:Nat):Rdr×List Rul:=match sd1[j]? with|some p=>(p.1,rs1.take p.2)|none=>(⟨[],[],[],[],0⟩,[])
noncomputable def lB1 (j:Nat):Bool:=bM spC cl1 (st1 j).1 (st1 j).2 (ln1.getD j []) (st1 (j+1)).1 (st1 (j+1)).2
theorem li1_0:lB1 0=true:=by kernel_rfl
theorem li1_1:lB1 1=true:=by kernel_rfl
theorem li1_2:lB1 2=true:=by kernel_rfl
theorem li1_3:lB1 3=true:=by kernel_rfl
theorem li1_4:lB1 4=true:=by kernel_rfl
theorem li1_5:lB1 5=true:=by kernel_rfl
theorem li1_6:lB1 6=true:=by kernel_rfl
theorem li1_7:lB1 7=true:=by kernel_rfl
theorem li1_8:lB1 8=true:=by kernel_rfl
theorem li1_9:lB1 9=true:=by kernel_rfl
theorem li1_10:lB1 10=true:=by kernel_rfl
theorem li1_11:lB1 11=true:=by kernel_rfl
theorem li1_12:lB1 12=true:=by kernel_rfl
theorem li1_13:lB1 13=true:=by kernel_rfl
theorem lines1:∀ j,j<14->lB1 j=true
 | 0,_=>li1_0
 | 1,_=>li1_1
 | 2,_=>li1_2
 | 3,_=>li1_3
 | 4,_=>li1_4
 | 5,_=>li1_5
 | 6,_=>li1_6
 | 7,_=>li1_7
 | 8,_=>li1_8
 | 9,_=>li1_9
 | 10,_=>li1_10
 | 11,_=>li1_11
 | 12,_=>li1_12
 | 13,_=>li1_13
 | j+14,h=>absurd h om
theorem Gx:@Pu gtR Tryz.prog 95 [strs cl1,.str Dj] (.tup [.agg [strs cl1,lstS bp rs1],.agg [i64 0,i64 0]]):=
 Al (L:=ln1) (st:=st1) rfl (Aw (by kernel_rfl)) (Aa (by kernel_rfl)) (by decide) (by decide) (by decide) (by decide) (λj h=>lines1 j h) (by kernel_rfl) (by kernel_rfl)
end Go.Proofs.YtpgcjpcenaefpaaGreatDoor
