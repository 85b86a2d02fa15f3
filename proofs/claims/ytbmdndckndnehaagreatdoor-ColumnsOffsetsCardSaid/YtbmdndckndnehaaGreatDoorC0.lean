/-
  Contracts of functions over data: keys of sets.
-/
import Derived.Test.YtbmdndckndnehaaGreatDoorChecked
import Derived.Test.YtbmdndckndnehaaGreatDoorAmF
set_option linter.unusedSectionVars false
namespace Go.Proofs.YtbmdndckndnehaaGreatDoor
section
open Go Go.Am Classical
set_option maxRecDepth 100000
theorem xC0.rbX {p:Prop}(h:p:=by first|exact Rb.cells (Rds.eqs e2 (bE (λ_=>rfl))) rfl|exact Rb.cells (Rds.eqs (bR om (λi _=>by first|(simp;done)|fail)) (bE (λ_=>rfl))) rfl|exact Rb.cells (Rds.eqs (bv (by first|(simp[hb,hk];done)|fail) (λi _ hi=>by first|(simp only[show(i<k+1)=(i<k) from propext ⟨λh=>by omega,λh=>by omega⟩];done)|fail)) (bE (λ_=>rfl))) rfl|fail):p:=h
open xC0
variable [GT]
theorem aB:Tryz.prog.follows .mixedOrders=true:=by kernel_rfl
instance:Mx Tryz.prog:=⟨aB⟩
abbrev T0:TOk Tryz.prog (fD Tryz.prog):=vN _
theorem Ih {l:List Int}(hl:l.length<=1000000):Pu Tryz.prog 158 [aD l] (boo (decide (l=[0]))):=by
 refine pv Tryz.func158 ?_;repeat' ((conv=>whnf);first|exact kQ|(refine bk ?_ ?_<;>intro _<;>try(exfalso;omega))|refine stq ?_)
 all_goals(conv=>whnf)
 all_goals first
  | exact aC.yes (by match l with|[x]=>simp_all)
  | exact aC.no (by rintro rfl;simp_all)
def jz (l:List Bool):Str:=l.map λb=>if b then 1 else 0
theorem oz {l:List Bool}(hl:l.length<=1000000):Pu Tryz.prog 163 [a9 l] (.str (jz l)):=by
 refine pv Tryz.func163 ?_;repeat' ((conv=>whnf);first|exact kQ|(refine bk ?_ ?_<;>intro _<;>try(exfalso;omega))|refine stq ?_)
 refine aH.by aB T0 (λk:Nat=>⟨tmp 23 [(3,.sl 0 0 l.length l.length 1 true),(9,a9 l),(10,i64 l.length),(11,i64 (k:Int))],⟨1,[(0,.cells (aZ l.length λi=>.v (.int .u8 (if i<k∧l.getD i false then 1 else 0))) true)]⟩⟩)
  (λk=>k<=l.length) (λk=>l.length-k) 0 om ?_ ?_
 ·exact lq [(0,_)] []
 intro k h3;by_cases hk:k<l.length
 ·have eg:l.getD k false=l[k]:=aK hk;cases hb:l[k] with
  | true=>
   repeat' ((conv=>whnf);first|refine Idx.atE (d:=boo true) k rfl hk (by rw[hb]) ?_|exact kQ|(refine bk ?_ ?_<;>intro _<;>try(exfalso;omega))|refine stq ?_|refine Put.one (by simp;omega) ?_|fail)
   all_goals(conv=>whnf)
   refine⟨k+1,by omega,by omega,?_⟩;exact lq [(0,_)] []
  | false=>
   repeat' ((conv=>whnf);first|refine Idx.atE (d:=boo false) k rfl hk (by rw[hb]) ?_|exact kQ|(refine bk ?_ ?_<;>intro _<;>try(exfalso;omega))|refine stq ?_|fail)
   all_goals(conv=>whnf)
   have e2:(aZ l.length λi=>D.v (.int .u8 (if i<k∧l.getD i false then 1 else 0)))=aZ l.length λi=>D.v (.int .u8 (if i<k+1∧l.getD i false then 1 else 0)):=jh λi _=>by
    by_cases hi:i=k
    ·subst hi;rw[eg,hb];simp
    ·simp only[show(i<k+1)=(i<k) from propext ⟨λh=>by omega,λh=>by omega⟩]
   refine⟨k+1,by omega,by omega,?_⟩;exact lq [(0,_)] []
 ·have hfin:(aZ l.length λi=>D.v (.int .u8 (if i<k∧l.getD i false then 1 else 0)))=(jz l).map byt:=by
   rw[jz,List.map_map];refine co λi hi=>?_
   rw[aK hi];cases l[i]<;>simp[show i<k by omega]
  repeat' ((conv=>whnf);first|exact kQ|(refine bk ?_ ?_<;>intro _<;>try(exfalso;omega))|refine stq ?_|refine Cvs.all (l:=jz l) hfin (by simp[jz]) ?_|fail)
  all_goals(conv=>whnf)
  exact aC.same rfl rfl
end
section
open Go Go.Am Classical
set_option maxRecDepth 100000
theorem xC1.rdX {p:Prop}(h:p:=by first|exact Rd.sl' rfl sim sim|fail):p:=h
theorem xC1.rbX {p:Prop}(h:p:=by first|exact Rb.cells (Rds.eqs (qy (x0::xs0) [32] rfl (by first|(simp only[nC,aO];done)|fail)) (aF (by intro _;rfl) _)) rfl|exact Rb.cells (Rds.eqs ((qy ((x::xs)++(x0::xs0)) [32] sim (qy (x::xs) (x0::xs0) rfl rfl)).trans (by first|(rw[e2];done)|fail)) (aF (by intro _;rfl) _)) rfl|fail):p:=h
open xC1
variable [GT]
def dig (k:Nat):Str:=if k<10 then [UInt8.ofNat (48+k)] else [UInt8.ofNat (48+k / 10),UInt8.ofNat (48+k % 10)]
theorem HX {k:Nat}(hk:k<100):Pu Tryz.prog 256 [i64 k] (.str (dig k)):=by
 refine pv Tryz.func256 ?_;have ew:IntKind.i64.wrap ((k:Int)*2)=(k:Int)*2:=by simp[IntKind.wrap,IntKind.bits,IntKind.signed];omega
 repeat' ((conv=>whnf);first|exact kQ|(refine bk ?_ ?_<;>intro _<;>try(exfalso;omega))|refine stq ?_|refine Chk.mk ⟨by omega,by omega,show(_:Int)<=((36:Nat):Int) from by omega⟩ ?_|refine Chk.mk (by rw[ew];exact sJ om om) ?_|refine Chk.mk (by rw[ew];exact⟨by omega,by omega,show(_:Int)<=((200:Nat):Int) from by omega⟩) ?_|fail)
 all_goals(conv=>whnf)
 all_goals
  refine aC.same rfl (congrArg D.str ?_);rename_i hk';clear ew;revert k;decide
def eh:List Nat->Str
 | []=>[]
 | k::l=>dig k++[32]++eh l
theorem pd:∀ l m,eh (l++m)=eh l++eh m
 | [],_=>rfl
 | k::l,m=>by simp[eh,pd l m]
abbrev dF (l:List Nat):D:=lst (λk:Nat=>i64 (k:Int)) l
theorem bt (l:List Nat):aN (dF l)=true:=fO (λ_=>rfl) l
theorem Ii (k:Nat):(dig k).length<=2:=by unfold dig;split<;>simp
theorem tx {l:List Nat}{k:Nat}(h:k<l.length):eh (l.take (k+1))=eh (l.take k)++(dig l[k]++[32]):=by
 rw[bP h,pd];simp[eh]
theorem Ee {l:List Nat}:∀ k,(eh (l.take k)).length<=3*l.length:=λk=>by
 have h:∀ m:List Nat,(eh m).length<=3*m.length:=by
  intro m;induction m with
  | nil=>simp[eh]
  | cons a m ih=>have:=Ii a;simp[eh];omega
 have:=h (l.take k);simp at this;omega
abbrev bytC (b:UInt8):List D:=[byt b]
theorem rj:∀ s:Str,d9 (nC s)=true
 | []=>rfl
 | _::s=>rj s
theorem qy (s r:Str){n:Nat}{cs:List D}(hn:n=s.length) (e:cs=s.flatMap bytC):(cs.drop 0).take (n*1)++nC r=(s++r).flatMap bytC:=by
 subst e;subst hn;rw[List.drop_zero,kE (by simp[aO]),List.flatMap_append];simp only[nC,aO]
theorem fh {l:List Nat}(hl:l.length<=1000000) (hs:∀ i (h:i<l.length),l[i]<100):Pu Tryz.prog 157 [dF l] (.str (eh l)):=by
 refine pv Tryz.func157 ?_;repeat' ((conv=>whnf);first|exact kQ|(refine bk ?_ ?_<;>intro _<;>try(exfalso;omega))|refine stq ?_)
 refine aH.by2 aB T0 (λ(k:Nat) (o:Str)=>⟨tmp 21 [(3,aU 0 1 o),(6,dF l),(7,i64 l.length),(8,i64 (k:Int))],⟨1,bz 0 bytC o⟩⟩)
  (λk o=>k<=l.length∧o=eh (l.take k)) (λk _=>l.length-k) 0 [] ⟨by omega,rfl⟩ ?_ ?_
 ·exact lq0
 intro k o ⟨h3,h4⟩;by_cases hk:k<l.length
 ·have h5:=hs k hk;have ew1:IntKind.u64.wrap ((l[k]:Nat):Int)=((l[k]:Nat):Int):=by simp[IntKind.wrap,IntKind.bits,IntKind.signed];omega
  have ew2:IntKind.i64.wrap (IntKind.u64.wrap ((l[k]:Nat):Int))=((l[k]:Nat):Int):=by rw[ew1];simp[IntKind.wrap,IntKind.bits,IntKind.signed];omega
  obtain⟨x0,xs0,hd,hx⟩:∃ x0 xs0,dig l[k]=x0::xs0∧xs0.length<=1:=by
   unfold dig;split
   ·exact⟨_,_,rfl,by simp⟩
   ·exact⟨_,_,rfl,by simp⟩
  have hx2:(x0::xs0).length=xs0.length+1:=rfl;have hsm:Pu Tryz.prog 256 [i64 (IntKind.i64.wrap (IntKind.u64.wrap ((l[k]:Nat):Int)))] (.str (x0::xs0)):=by rw[ew2,<-hd];exact HX h5
  cases o with
  | nil=>
   repeat' ((conv=>whnf);first|exact kQ|(refine bk ?_ ?_<;>intro _<;>try(exfalso;omega))|refine stq ?_|(apply Cll.inl aB T0 Tryz.func187 rfl rfl ?_;rotate_left)|(apply Cll.inl aB T0 Tryz.func210 rfl rfl ?_;rotate_left)|(apply Cll.inl aB T0 Tryz.func233 rfl rfl ?_;rotate_left)|exact⟨Or.inr rfl,rfl,rfl⟩|refine cp hsm ?_|refine Chk.growX 1 1 rfl rfl om om (by simp[nC]) ?_|fail)
   all_goals(conv=>whnf)
   refine⟨k+1,x0::(xs0++[32]),⟨by omega,by rw[tx hk,<-h4,hd];simp⟩,by omega,?_⟩;exact lq [(0,_)] []
  | cons x xs=>
   have hx3:(x::xs).length<=3*l.length:=by rw[h4];exact Ee k
   repeat' ((conv=>whnf);first|exact kQ|(refine bk ?_ ?_<;>intro _<;>try(exfalso;omega))|refine stq ?_|(apply Cll.inl aB T0 Tryz.func187 rfl rfl ?_;rotate_left)|(apply Cll.inl aB T0 Tryz.func210 rfl rfl ?_;rotate_left)|(apply Cll.inl aB T0 Tryz.func233 rfl rfl ?_;rotate_left)|exact⟨Or.inr rfl,rfl,rfl⟩|refine cp hsm ?_|refine Chk.mk (rj _) ?_|refine Chk.growX 1 1 rfl rfl om om (by rw[qy (x::xs) (x0::xs0) rfl rfl,aO];simp;omega) ?_|fail)
   all_goals(conv=>whnf)
   refine⟨k+1,x::(xs++(x0::(xs0++[32]))),⟨by omega,by rw[tx hk,<-h4,hd];simp⟩,by omega,?_⟩;have e2:((x::xs)++(x0::xs0))++[32]=x::(xs++(x0::(xs0++[32]))):=by simp
   exact lq [(0,_)] []
 ·have hfin:eh l=o:=by rw[h4,kE om]
  rw[hfin];cases o with
  | nil=>
   repeat' ((conv=>whnf);first|exact kQ|(refine bk ?_ ?_<;>intro _<;>try(exfalso;omega))|refine stq ?_|fail)
   all_goals(conv=>whnf)
   exact aC.same rfl rfl
  | cons x xs=>
   repeat' ((conv=>whnf);first|exact kQ|(refine bk ?_ ?_<;>intro _<;>try(exfalso;omega))|refine stq ?_|refine Cvs.all (l:=x::xs) (aO _) rfl ?_|fail)
   all_goals(conv=>whnf)
   exact aC.same rfl rfl
end
section
open Go Go.Am Classical
set_option maxRecDepth 100000
theorem xC2.rbX {p:Prop}(h:p:=by first|exact Rb.cells (Rds.eqs e3 (aS (λ_=>rfl) _)) rfl|exact Rb.cells (Rds.eqs (by first|(rw[<-h5];rfl;done)|fail) (aS (λ_=>rfl) _)) rfl|exact Rb.cells (Rds.eqs (by first|(rw[<-e3];done)|fail) (aS (λ_=>rfl) _)) rfl|fail):p:=h
open xC2
variable [GT]
theorem JC {l:List Int}{x:Int}(hl:l.length<=1000000):Pu Tryz.prog 211 [aD l,i64 x] (i64 (if x∈l then l.idxOf x else -1)):=by
 refine pv Tryz.func211 ?_;repeat' ((conv=>whnf);first|exact kQ|(refine bk ?_ ?_<;>intro _<;>try(exfalso;omega))|refine stq ?_)
 refine aH.by aB T0 (λk:Nat=>⟨tmp 19 [(0,aD l),(1,i64 x),(7,i64 l.length),(8,i64 (k:Int))],⟨0,[]⟩⟩)
  (λk=>k<=l.length∧¬x∈l.take k) (λk=>l.length-k) 0 ⟨by omega,by simp⟩ ?_ ?_
 ·exact lq0
 intro k ⟨h3,h4⟩;repeat' ((conv=>whnf);first|exact kQ|(refine bk ?_ ?_<;>intro _<;>try(exfalso;omega))|refine stq ?_)
 all_goals(conv=>whnf)
 all_goals first
  | (refine aC.int ?_
     have hk:k<l.length:=by omega
     have e:x=l[k]:=by assumption
     rw[if_pos (by rw[e];exact kM hk)]
     have h1:l.idxOf x<=k:=Nat.le_of_not_lt λhlt=>by
      have:=List.not_of_lt_findIdx hlt
      simp[e] at this
     have h2:¬l.idxOf x<k:=λhlt=>h4 (by rw[List.mem_take_iff_getElem];exact⟨l.idxOf x,by omega,by simp⟩)
     congr 1
     omega)
  | exact aC.int (by rw[kE om] at h4;rw[if_neg h4])
  | (refine⟨k+1,⟨by omega,by rw[bP om];simp only[List.mem_append,List.mem_singleton,not_or];exact⟨h4,by assumption⟩⟩,by omega,?_⟩
     exact lq0)
theorem jm {l:List Int}{x:Int}(hl:l.length<=1000000):Pu Tryz.prog 188 [aD l,i64 x] (boo (decide (x∈l))):=by
 refine pv Tryz.func188 ?_;repeat' ((conv=>whnf);first|exact kQ|(refine bk ?_ ?_<;>intro _<;>try(exfalso;omega))|refine stq ?_|refine cp (JC sd) ?_|fail)
 all_goals(conv=>whnf)
 all_goals first
  | exact aC.yes (by rename_i hc;exact Classical.byContradiction λhm=>by rw[if_neg hm] at hc;omega)
  | exact aC.no (by rename_i hc;intro hm;rw[if_pos hm] at hc;omega)
theorem Bh {x:Int}:Pu Tryz.prog 231 [i64 x] (boo false):=by
 refine pv Tryz.func231 ?_;repeat' ((conv=>whnf);first|exact kQ|(refine bk ?_ ?_<;>intro _<;>try(exfalso;omega))|refine stq ?_)
 all_goals(conv=>whnf)
 exact aC.same rfl rfl
theorem Less_c {x y:Int}:Pu Tryz.prog 240 [i64 x,i64 y] (boo (decide (x<y))):=by
 refine pv Tryz.func240 ?_;repeat' ((conv=>whnf);first|exact kQ|(refine bk ?_ ?_<;>intro _<;>try(exfalso;omega))|refine stq ?_|refine cp Bh ?_|fail)
 all_goals(conv=>whnf)
 all_goals first
  | exact aC.yes asm
  | exact aC.no asm
def swp (l:List Nat) (j:Nat):List Nat:=(l.set (j+1) (l.getD j 0)).set j (l.getD (j+1) 0)
def inn:List Nat->Nat->List Nat
 | l,0=>l
 | l,j+1=>if l.getD (j+1) 0<l.getD j 0 then inn (swp l j) j else l
def wA (l:List Nat):Nat->List Nat
 | 0=>l
 | i+1=>inn (wA l i) (i+1)
def srt (l:List Nat):List Nat:=wA l (l.length-1)
@[simp] theorem swp_len (l:List Nat) (j:Nat):(swp l j).length=l.length:=by simp[swp]
@[simp] theorem inn_len:∀ (j:Nat) (l:List Nat),(inn l j).length=l.length
 | 0,l=>rfl
 | j+1,l=>by
  unfold inn;split
  ·rw[inn_len j,swp_len]
  ·rfl
@[simp] theorem insr_len (l:List Nat):∀ i,(wA l i).length=l.length
 | 0=>rfl
 | i+1=>by simp[wA,insr_len l i]
abbrev cN (k:Nat):D:=i64 (k:Int)
theorem inss_c {l:List Nat}(hl:l.length<=12) (hn:l≠[]):AC1 Tryz.prog 234 [.sl 0 0 l.length l.length 1 false,i64 0,i64 l.length] ⟨1,[(0,.cells (l.map cN) false)]⟩ (.tup []) ⟨4,[(0,.cells ((srt l).map cN) false)]⟩:=by
 have h0:0<l.length:=List.length_pos_iff.2 hn;refine AC1.of_vl aB T0 Tryz.func234 rfl rfl ?_;repeat' ((conv=>whnf);first|exact kQ|(refine bk ?_ ?_<;>intro _<;>try(exfalso;omega))|refine stq ?_)
 refine aH.by aB T0 (λi:Nat=>⟨tmp 49 [(0,.sl 0 0 l.length l.length 1 false),(1,i64 0),(2,i64 l.length),(6,i64 ((i+1:Nat):Int))],⟨1,[(0,.cells ((wA l i).map cN) false)]⟩⟩)
  (λi=>i<l.length) (λi=>l.length-i) 0 h0 ?_ ?_
 ·exact lq0
 intro i h1;by_cases h2:i+1<l.length
 ·repeat' ((conv=>whnf);first|exact kQ|(refine bk ?_ ?_<;>intro _<;>try(exfalso;omega))|refine stq ?_|fail)
  refine aH.by2 aB T0 (λ(j:Nat) (cur:List Nat)=>⟨tmp 49 [(0,.sl 0 0 l.length l.length 1 false),(1,i64 0),(2,i64 l.length),(6,i64 ((i+1:Nat):Int)),(7,i64 (j:Int))],⟨1,[(0,.cells (cur.map cN) false)]⟩⟩)
   (λj cur=>j<l.length∧cur.length=l.length∧inn cur j=wA l (i+1)) (λj _=>j) (i+1) (wA l i) ⟨h2,by simp,rfl⟩ ?_ ?_
  ·exact lq0
  intro j cur ⟨h3,h4,h5⟩;cases j with
  | zero=>
   repeat' ((conv=>whnf);first|exact kQ|(refine bk ?_ ?_<;>intro _<;>try(exfalso;omega))|refine stq ?_|refine ap.by (id:=4) aB T0 [0,0,3,7,15,15,63,127,15,15,527,1807,3855,8191,16383] (by kernel_rfl) ?_|fail)
   all_goals(conv=>whnf)
   refine⟨i+1,h2,by omega,?_⟩;exact lq0
  | succ j=>
   repeat' ((conv=>whnf);first|exact kQ|(refine bk ?_ ?_<;>intro _<;>try(exfalso;omega))|refine stq ?_|refine cd Less_c (λ_=>?_) (λ_=>?_)|refine ap.by (id:=4) aB T0 [0,0,3,7,15,15,63,127,15,15,527,1807,3855,8191,16383] (by kernel_rfl) ?_|refine ap.by (id:=6) aB T0 [0,0,0,0,8,0,0,64,224,480,0,0,3072,7168,16355,32739,65535,131071] (by kernel_rfl) ?_|refine cO.at (j+1) om om ?_|refine cO.at j om om ?_|refine Get.map om ?_|refine Put.one (by simp;omega) ?_|fail)
   all_goals(conv=>whnf)
   ·have hlt:cur[j+1]<cur[j]:=by omega
    have e1:cur.getD j 0=cur[j]:=aK om;have e2:cur.getD (j+1) 0=cur[j+1]:=aK om
    have e3:((cur.map cN).set (j+1) (cN cur[j])).set j (cN cur[j+1])=(swp cur j).map cN:=by
     rw[swp,e1,e2,List.map_set,List.map_set]
    refine⟨j,swp cur j,⟨by omega,by simp[h4],?_⟩,by omega,?_⟩
    ·rw[<-h5];simp only[inn,e1,e2,hlt,if_true]
    exact lq0
   ·have hlt:¬cur[j+1]<cur[j]:=by omega
    have e1:cur.getD j 0=cur[j]:=aK om;have e2:cur.getD (j+1) 0=cur[j+1]:=aK om;have e3:cur=wA l (i+1):=by rw[<-h5];simp only[inn,e1,e2,hlt,if_false]
    refine⟨i+1,h2,by omega,?_⟩;exact lq0
 ·repeat' ((conv=>whnf);first|exact kQ|(refine bk ?_ ?_<;>intro _<;>try(exfalso;omega))|refine stq ?_|fail)
  all_goals(conv=>whnf)
  have e:srt l=wA l i:=by rw[srt,show l.length-1=i from by omega]
  exact⟨Or.inl rfl,rfl,by rw[e]⟩
end
section
open Go Go.Am Classical
set_option maxRecDepth 100000
variable [GT]
theorem CK {n:Nat}(hn:n<=12):Pu Tryz.prog 213 [.v (.int .u64 n)] (i64 (([0,1,2,2,3,3,3,3,4,4,4,4,4]:List Int).getD n 0)):=by
 rcases(by omega:n=0∨n=1∨n=2∨n=3∨n=4∨n=5∨n=6∨n=7∨n=8∨n=9∨n=10∨n=11∨n=12) with rfl|rfl|rfl|rfl|rfl|rfl|rfl|rfl|rfl|rfl|rfl|rfl|rfl
 all_goals
  refine pv Tryz.func213 ?_;repeat' ((conv=>whnf);first|refine Ao.mk (by decide) (by decide) ?_|exact kQ|(refine bk ?_ ?_<;>intro _<;>try(exfalso;omega))|refine stq ?_|(apply Cll.inl aB T0 Tryz.func244 rfl rfl ?_;rotate_left)|exact⟨Or.inr rfl,rfl,rfl⟩|refine Chk.mk (sJ (by decide) (by decide)) ?_|fail)
  all_goals(conv=>whnf)
  exact aC.same rfl rfl
theorem Sort_c {l:List Nat}(hl:l.length<=12) (hn:l≠[]):AC1 Tryz.prog 191 [.sl 0 0 l.length l.length 1 false] ⟨1,[(0,.cells (l.map cN) false)]⟩ (.tup []) ⟨25,[(0,.cells ((srt l).map cN) false)]⟩:=by
 have hlen:Pu Tryz.prog 213 [.v (.int .u64 (IntKind.u64.wrap (l.length:Int)))] (i64 (([0,1,2,2,3,3,3,3,4,4,4,4,4]:List Int).getD l.length 0)):=by
  rw[show IntKind.u64.wrap (l.length:Int)=(l.length:Int) from by simp[IntKind.wrap,IntKind.bits,IntKind.signed];omega];exact CK hl
 refine AC1.of_vl aB T0 Tryz.func191 rfl rfl ?_;repeat' ((conv=>whnf);first|exact kQ|(refine bk ?_ ?_<;>intro _<;>try(exfalso;omega))|refine stq ?_|refine cp hlen ?_|(apply Cll.inl aB T0 Tryz.func212 rfl rfl ?_;rotate_left)|exact⟨Or.inr rfl,rfl,rfl⟩|refine aH.times aB T0 1 ?_|refine Cll.emb (inss_c hl hn) [(0,0)] [] (.tup []) [(0,.cells ((srt l).map cN) false)] [] rfl cE bxA rdA bxA reA ?_|fail)
 all_goals(conv=>whnf)
 exact⟨Or.inl rfl,rfl,rfl⟩
end
end Go.Proofs.YtbmdndckndnehaaGreatDoor
