/-
  Contracts of functions over data: keys of sets.
-/
import Derived.Test.YtbmdndckndnehaaGreatDoorChecked
import Derived.Test.YtbmdndckndnehaaGreatDoorAmF
set_option linter.unusedSectionVars false
namespace Go.Proofs.YtbmdndckndnehaaGreatDoor
section
open Go Go.Am Classical
set_option maxRecDepth 100000
theorem xC0.rbX {p:Prop}(h:p:=by first|exact Rb.cells (Rds.eqs e2 (bC (λ_=>rfl))) rfl|exact Rb.cells (Rds.eqs (bO om (λi _=>by first|(simp;done)|fail)) (bC (λ_=>rfl))) rfl|exact Rb.cells (Rds.eqs (bo (by first|(simp[hb,hk];done)|fail) (λi _ hi=>by first|(simp only[show(i<k+1)=(i<k) from propext ⟨λh=>by omega,λh=>by omega⟩];done)|fail)) (bC (λ_=>rfl))) rfl|fail):p:=h
open xC0
variable [GT]
theorem aB:Tryz.prog.follows .mixedOrders=true:=by kernel_rfl
instance:Mx Tryz.prog:=⟨aB⟩
abbrev T0:TOk Tryz.prog (ek Tryz.prog):=uG _
theorem G7 {l:List Int}(hl:l.length<=1000000):Pu Tryz.prog 158 [aF l] (boo (decide (l=[0]))):=by
 refine pv Tryz.func158 ?_;repeat' ((conv=>whnf);first|exact kQ|(refine bk ?_ ?_<;>intro _<;>try(exfalso;omega))|refine stq ?_)
 all_goals(conv=>whnf)
 all_goals first
  | exact aC.yes (by match l with|[x]=>simp_all)
  | exact aC.no (by rintro rfl;simp_all)
def jh (l:List Bool):Str:=l.map λb=>if b then 1 else 0
theorem n6 {l:List Bool}(hl:l.length<=1000000):Pu Tryz.prog 163 [a8 l] (.str (jh l)):=by
 refine pv Tryz.func163 ?_;repeat' ((conv=>whnf);first|exact kQ|(refine bk ?_ ?_<;>intro _<;>try(exfalso;omega))|refine stq ?_)
 refine aH.by aB T0 (λk:Nat=>⟨tmp 23 [(3,.sl 0 0 l.length l.length 1 true),(9,a8 l),(10,i64 l.length),(11,i64 (k:Int))],⟨1,[(0,.cells (aY l.length λi=>.v (.int .u8 (if i<k∧l.getD i false then 1 else 0))) true)]⟩⟩)
  (λk=>k<=l.length) (λk=>l.length-k) 0 om ?_ ?_
 ·exact lq [(0,_)] []
 intro k h3;by_cases hk:k<l.length
 ·have eg:l.getD k false=l[k]:=aJ hk;cases hb:l[k] with
  | true=>
   repeat' ((conv=>whnf);first|refine Idx.atE (d:=boo true) k rfl hk (by rw[hb]) ?_|exact kQ|(refine bk ?_ ?_<;>intro _<;>try(exfalso;omega))|refine stq ?_|refine Put.one (by simp;omega) ?_|fail)
   all_goals(conv=>whnf)
   refine⟨k+1,by omega,by omega,?_⟩;exact lq [(0,_)] []
  | false=>
   repeat' ((conv=>whnf);first|refine Idx.atE (d:=boo false) k rfl hk (by rw[hb]) ?_|exact kQ|(refine bk ?_ ?_<;>intro _<;>try(exfalso;omega))|refine stq ?_|fail)
   all_goals(conv=>whnf)
   have e2:(aY l.length λi=>D.v (.int .u8 (if i<k∧l.getD i false then 1 else 0)))=aY l.length λi=>D.v (.int .u8 (if i<k+1∧l.getD i false then 1 else 0)):=jS λi _=>by
    by_cases hi:i=k
    ·subst hi;rw[eg,hb];simp
    ·simp only[show(i<k+1)=(i<k) from propext ⟨λh=>by omega,λh=>by omega⟩]
   refine⟨k+1,by omega,by omega,?_⟩;exact lq [(0,_)] []
 ·have hfin:(aY l.length λi=>D.v (.int .u8 (if i<k∧l.getD i false then 1 else 0)))=(jh l).map byt:=by
   rw[jh,List.map_map];refine cZ λi hi=>?_
   rw[aJ hi];cases l[i]<;>simp[show i<k by omega]
  repeat' ((conv=>whnf);first|exact kQ|(refine bk ?_ ?_<;>intro _<;>try(exfalso;omega))|refine stq ?_|refine Cvs.all (l:=jh l) hfin (by simp[jh]) ?_|fail)
  all_goals(conv=>whnf)
  exact aC.same rfl rfl
end
section
open Go Go.Am Classical
set_option maxRecDepth 100000
theorem xC1.rdX {p:Prop}(h:p:=by first|exact Rd.sl' rfl sim sim|fail):p:=h
theorem xC1.rbX {p:Prop}(h:p:=by first|exact Rb.cells (Rds.eqs (p8 (x0::xs0) [32] rfl (by first|(simp only[mQ,aO];done)|fail)) (aE (by intro _;rfl) _)) rfl|exact Rb.cells (Rds.eqs ((p8 ((x::xs)++(x0::xs0)) [32] sim (p8 (x::xs) (x0::xs0) rfl rfl)).trans (by first|(rw[e2];done)|fail)) (aE (by intro _;rfl) _)) rfl|fail):p:=h
open xC1
variable [GT]
def dig (k:Nat):Str:=if k<10 then [UInt8.ofNat (48+k)] else [UInt8.ofNat (48+k / 10),UInt8.ofNat (48+k % 10)]
theorem Ft {k:Nat}(hk:k<100):Pu Tryz.prog 256 [i64 k] (.str (dig k)):=by
 refine pv Tryz.func256 ?_;have ew:IntKind.i64.wrap ((k:Int)*2)=(k:Int)*2:=by simp[IntKind.wrap,IntKind.bits,IntKind.signed];omega
 repeat' ((conv=>whnf);first|exact kQ|(refine bk ?_ ?_<;>intro _<;>try(exfalso;omega))|refine stq ?_|refine Chk.mk ⟨by omega,by omega,show(_:Int)<=((36:Nat):Int) from by omega⟩ ?_|refine Chk.mk (by rw[ew];exact tN om om) ?_|refine Chk.mk (by rw[ew];exact⟨by omega,by omega,show(_:Int)<=((200:Nat):Int) from by omega⟩) ?_|fail)
 all_goals(conv=>whnf)
 all_goals
  refine aC.same rfl (congrArg D.str ?_);rename_i hk';clear ew;revert k;decide
def eL:List Nat->Str
 | []=>[]
 | k::l=>dig k++[32]++eL l
theorem oY:∀ l m,eL (l++m)=eL l++eL m
 | [],_=>rfl
 | k::l,m=>by simp[eL,oY l m]
abbrev cx (l:List Nat):D:=lst (λk:Nat=>i64 (k:Int)) l
theorem bn (l:List Nat):aK (cx l)=true:=fA (λ_=>rfl) l
theorem G9 (k:Nat):(dig k).length<=2:=by unfold dig;split<;>simp
theorem sb {l:List Nat}{k:Nat}(h:k<l.length):eL (l.take (k+1))=eL (l.take k)++(dig l[k]++[32]):=by
 rw[bN h,oY];simp[eL]
theorem DD {l:List Nat}:∀ k,(eL (l.take k)).length<=3*l.length:=λk=>by
 have h:∀ m:List Nat,(eL m).length<=3*m.length:=by
  intro m;induction m with
  | nil=>simp[eL]
  | cons a m ih=>have:=G9 a;simp[eL];omega
 have:=h (l.take k);simp at this;omega
abbrev bytC (b:UInt8):List D:=[byt b]
theorem qh:∀ s:Str,eF (mQ s)=true
 | []=>rfl
 | _::s=>qh s
theorem p8 (s r:Str){n:Nat}{cs:List D}(hn:n=s.length) (e:cs=s.flatMap bytC):(cs.drop 0).take (n*1)++mQ r=(s++r).flatMap bytC:=by
 subst e;subst hn;rw[List.drop_zero,kE (by simp[aO]),List.flatMap_append];simp only[mQ,aO]
theorem fR {l:List Nat}(hl:l.length<=1000000) (hs:∀ i (h:i<l.length),l[i]<100):Pu Tryz.prog 157 [cx l] (.str (eL l)):=by
 refine pv Tryz.func157 ?_;repeat' ((conv=>whnf);first|exact kQ|(refine bk ?_ ?_<;>intro _<;>try(exfalso;omega))|refine stq ?_)
 refine aH.by2 aB T0 (λ(k:Nat) (o:Str)=>⟨tmp 21 [(3,aS 0 1 o),(6,cx l),(7,i64 l.length),(8,i64 (k:Int))],⟨1,bq 0 bytC o⟩⟩)
  (λk o=>k<=l.length∧o=eL (l.take k)) (λk _=>l.length-k) 0 [] ⟨by omega,rfl⟩ ?_ ?_
 ·exact lq0
 intro k o ⟨h3,h4⟩;by_cases hk:k<l.length
 ·have h5:=hs k hk;have ew1:IntKind.u64.wrap ((l[k]:Nat):Int)=((l[k]:Nat):Int):=by simp[IntKind.wrap,IntKind.bits,IntKind.signed];omega
  have ew2:IntKind.i64.wrap (IntKind.u64.wrap ((l[k]:Nat):Int))=((l[k]:Nat):Int):=by rw[ew1];simp[IntKind.wrap,IntKind.bits,IntKind.signed];omega
  obtain⟨x0,xs0,hd,hx⟩:∃ x0 xs0,dig l[k]=x0::xs0∧xs0.length<=1:=by
   unfold dig;split
   ·exact⟨_,_,rfl,by simp⟩
   ·exact⟨_,_,rfl,by simp⟩
  have hx2:(x0::xs0).length=xs0.length+1:=rfl;have hsm:Pu Tryz.prog 256 [i64 (IntKind.i64.wrap (IntKind.u64.wrap ((l[k]:Nat):Int)))] (.str (x0::xs0)):=by rw[ew2,<-hd];exact Ft h5
  cases o with
  | nil=>
   repeat' ((conv=>whnf);first|exact kQ|(refine bk ?_ ?_<;>intro _<;>try(exfalso;omega))|refine stq ?_|(apply Cll.inl aB T0 Tryz.func187 rfl rfl ?_;rotate_left)|(apply Cll.inl aB T0 Tryz.func210 rfl rfl ?_;rotate_left)|(apply Cll.inl aB T0 Tryz.func233 rfl rfl ?_;rotate_left)|exact⟨Or.inr rfl,rfl,rfl⟩|refine cp hsm ?_|refine Chk.growX 1 1 rfl rfl om om (by simp[mQ]) ?_|fail)
   all_goals(conv=>whnf)
   refine⟨k+1,x0::(xs0++[32]),⟨by omega,by rw[sb hk,<-h4,hd];simp⟩,by omega,?_⟩;exact lq [(0,_)] []
  | cons x xs=>
   have hx3:(x::xs).length<=3*l.length:=by rw[h4];exact DD k
   repeat' ((conv=>whnf);first|exact kQ|(refine bk ?_ ?_<;>intro _<;>try(exfalso;omega))|refine stq ?_|(apply Cll.inl aB T0 Tryz.func187 rfl rfl ?_;rotate_left)|(apply Cll.inl aB T0 Tryz.func210 rfl rfl ?_;rotate_left)|(apply Cll.inl aB T0 Tryz.func233 rfl rfl ?_;rotate_left)|exact⟨Or.inr rfl,rfl,rfl⟩|refine cp hsm ?_|refine Chk.mk (qh _) ?_|refine Chk.growX 1 1 rfl rfl om om (by rw[p8 (x::xs) (x0::xs0) rfl rfl,aO];simp;omega) ?_|fail)
   all_goals(conv=>whnf)
   refine⟨k+1,x::(xs++(x0::(xs0++[32]))),⟨by omega,by rw[sb hk,<-h4,hd];simp⟩,by omega,?_⟩;have e2:((x::xs)++(x0::xs0))++[32]=x::(xs++(x0::(xs0++[32]))):=by simp
   exact lq [(0,_)] []
 ·have hfin:eL l=o:=by rw[h4,kE om]
  rw[hfin];cases o with
  | nil=>
   repeat' ((conv=>whnf);first|exact kQ|(refine bk ?_ ?_<;>intro _<;>try(exfalso;omega))|refine stq ?_|fail)
   all_goals(conv=>whnf)
   exact aC.same rfl rfl
  | cons x xs=>
   repeat' ((conv=>whnf);first|exact kQ|(refine bk ?_ ?_<;>intro _<;>try(exfalso;omega))|refine stq ?_|refine Cvs.all (l:=x::xs) (aO _) rfl ?_|fail)
   all_goals(conv=>whnf)
   exact aC.same rfl rfl
end
section
open Go Go.Am Classical
set_option maxRecDepth 100000
theorem xC2.rbX {p:Prop}(h:p:=by first|exact Rb.cells (Rds.eqs e3 (aT (λ_=>rfl) _)) rfl|exact Rb.cells (Rds.eqs (by first|(rw[<-h5];rfl;done)|fail) (aT (λ_=>rfl) _)) rfl|exact Rb.cells (Rds.eqs (by first|(rw[<-e3];done)|fail) (aT (λ_=>rfl) _)) rfl|fail):p:=h
open xC2
variable [GT]
theorem HY {l:List Int}{x:Int}(hl:l.length<=1000000):Pu Tryz.prog 211 [aF l,i64 x] (i64 (if x∈l then l.idxOf x else -1)):=by
 refine pv Tryz.func211 ?_;repeat' ((conv=>whnf);first|exact kQ|(refine bk ?_ ?_<;>intro _<;>try(exfalso;omega))|refine stq ?_)
 refine aH.by aB T0 (λk:Nat=>⟨tmp 19 [(0,aF l),(1,i64 x),(7,i64 l.length),(8,i64 (k:Int))],⟨0,[]⟩⟩)
  (λk=>k<=l.length∧¬x∈l.take k) (λk=>l.length-k) 0 ⟨by omega,by simp⟩ ?_ ?_
 ·exact lq0
 intro k ⟨h3,h4⟩;repeat' ((conv=>whnf);first|exact kQ|(refine bk ?_ ?_<;>intro _<;>try(exfalso;omega))|refine stq ?_)
 all_goals(conv=>whnf)
 all_goals first
  | (refine aC.int ?_
     have hk:k<l.length:=by omega
     have e:x=l[k]:=by assumption
     rw[if_pos (by rw[e];exact kM hk)]
     have h1:l.idxOf x<=k:=Nat.le_of_not_lt λhlt=>by
      have:=List.not_of_lt_findIdx hlt
      simp[e] at this
     have h2:¬l.idxOf x<k:=λhlt=>h4 (by rw[List.mem_take_iff_getElem];exact⟨l.idxOf x,by omega,by simp⟩)
     congr 1
     omega)
  | exact aC.int (by rw[kE om] at h4;rw[if_neg h4])
  | (refine⟨k+1,⟨by omega,by rw[bN om];simp only[List.mem_append,List.mem_singleton,not_or];exact⟨h4,by assumption⟩⟩,by omega,?_⟩
     exact lq0)
theorem jX {l:List Int}{x:Int}(hl:l.length<=1000000):Pu Tryz.prog 188 [aF l,i64 x] (boo (decide (x∈l))):=by
 refine pv Tryz.func188 ?_;repeat' ((conv=>whnf);first|exact kQ|(refine bk ?_ ?_<;>intro _<;>try(exfalso;omega))|refine stq ?_|refine cp (HY sd) ?_|fail)
 all_goals(conv=>whnf)
 all_goals first
  | exact aC.yes (by rename_i hc;exact Classical.byContradiction λhm=>by rw[if_neg hm] at hc;omega)
  | exact aC.no (by rename_i hc;intro hm;rw[if_pos hm] at hc;omega)
theorem AL {x:Int}:Pu Tryz.prog 231 [i64 x] (boo false):=by
 refine pv Tryz.func231 ?_;repeat' ((conv=>whnf);first|exact kQ|(refine bk ?_ ?_<;>intro _<;>try(exfalso;omega))|refine stq ?_)
 all_goals(conv=>whnf)
 exact aC.same rfl rfl
theorem Less_c {x y:Int}:Pu Tryz.prog 240 [i64 x,i64 y] (boo (decide (x<y))):=by
 refine pv Tryz.func240 ?_;repeat' ((conv=>whnf);first|exact kQ|(refine bk ?_ ?_<;>intro _<;>try(exfalso;omega))|refine stq ?_|refine cp AL ?_|fail)
 all_goals(conv=>whnf)
 all_goals first
  | exact aC.yes asm
  | exact aC.no asm
def swp (l:List Nat) (j:Nat):List Nat:=(l.set (j+1) (l.getD j 0)).set j (l.getD (j+1) 0)
def inn:List Nat->Nat->List Nat
 | l,0=>l
 | l,j+1=>if l.getD (j+1) 0<l.getD j 0 then inn (swp l j) j else l
def uo (l:List Nat):Nat->List Nat
 | 0=>l
 | i+1=>inn (uo l i) (i+1)
def srt (l:List Nat):List Nat:=uo l (l.length-1)
@[simp] theorem swp_len (l:List Nat) (j:Nat):(swp l j).length=l.length:=by simp[swp]
@[simp] theorem inn_len:∀ (j:Nat) (l:List Nat),(inn l j).length=l.length
 | 0,l=>rfl
 | j+1,l=>by
  unfold inn;split
  ·rw[inn_len j,swp_len]
  ·rfl
@[simp] theorem insr_len (l:List Nat):∀ i,(uo l i).length=l.length
 | 0=>rfl
 | i+1=>by simp[uo,insr_len l i]
abbrev cF (k:Nat):D:=i64 (k:Int)
theorem inss_c {l:List Nat}(hl:l.length<=12) (hn:l≠[]):AC1 Tryz.prog 234 [.sl 0 0 l.length l.length 1 false,i64 0,i64 l.length] ⟨1,[(0,.cells (l.map cF) false)]⟩ (.tup []) ⟨4,[(0,.cells ((srt l).map cF) false)]⟩:=by
 have h0:0<l.length:=List.length_pos_iff.2 hn;refine AC1.of_vl aB T0 Tryz.func234 rfl rfl ?_;repeat' ((conv=>whnf);first|exact kQ|(refine bk ?_ ?_<;>intro _<;>try(exfalso;omega))|refine stq ?_)
 refine aH.by aB T0 (λi:Nat=>⟨tmp 49 [(0,.sl 0 0 l.length l.length 1 false),(1,i64 0),(2,i64 l.length),(6,i64 ((i+1:Nat):Int))],⟨1,[(0,.cells ((uo l i).map cF) false)]⟩⟩)
  (λi=>i<l.length) (λi=>l.length-i) 0 h0 ?_ ?_
 ·exact lq0
 intro i h1;by_cases h2:i+1<l.length
 ·repeat' ((conv=>whnf);first|exact kQ|(refine bk ?_ ?_<;>intro _<;>try(exfalso;omega))|refine stq ?_|fail)
  refine aH.by2 aB T0 (λ(j:Nat) (cur:List Nat)=>⟨tmp 49 [(0,.sl 0 0 l.length l.length 1 false),(1,i64 0),(2,i64 l.length),(6,i64 ((i+1:Nat):Int)),(7,i64 (j:Int))],⟨1,[(0,.cells (cur.map cF) false)]⟩⟩)
   (λj cur=>j<l.length∧cur.length=l.length∧inn cur j=uo l (i+1)) (λj _=>j) (i+1) (uo l i) ⟨h2,by simp,rfl⟩ ?_ ?_
  ·exact lq0
  intro j cur ⟨h3,h4,h5⟩;cases j with
  | zero=>
   repeat' ((conv=>whnf);first|exact kQ|(refine bk ?_ ?_<;>intro _<;>try(exfalso;omega))|refine stq ?_|refine aj.by (id:=4) aB T0 [0,0,3,7,15,15,63,127,15,15,527,1807,3855,8191,16383] (by kernel_rfl) ?_|fail)
   all_goals(conv=>whnf)
   refine⟨i+1,h2,by omega,?_⟩;exact lq0
  | succ j=>
   repeat' ((conv=>whnf);first|exact kQ|(refine bk ?_ ?_<;>intro _<;>try(exfalso;omega))|refine stq ?_|refine cd Less_c (λ_=>?_) (λ_=>?_)|refine aj.by (id:=4) aB T0 [0,0,3,7,15,15,63,127,15,15,527,1807,3855,8191,16383] (by kernel_rfl) ?_|refine aj.by (id:=6) aB T0 [0,0,0,0,8,0,0,64,224,480,0,0,3072,7168,16355,32739,65535,131071] (by kernel_rfl) ?_|refine cG.at (j+1) om om ?_|refine cG.at j om om ?_|refine Get.map om ?_|refine Put.one (by simp;omega) ?_|fail)
   all_goals(conv=>whnf)
   ·have hlt:cur[j+1]<cur[j]:=by omega
    have e1:cur.getD j 0=cur[j]:=aJ om;have e2:cur.getD (j+1) 0=cur[j+1]:=aJ om
    have e3:((cur.map cF).set (j+1) (cF cur[j])).set j (cF cur[j+1])=(swp cur j).map cF:=by
     rw[swp,e1,e2,List.map_set,List.map_set]
    refine⟨j,swp cur j,⟨by omega,by simp[h4],?_⟩,by omega,?_⟩
    ·rw[<-h5];simp only[inn,e1,e2,hlt,if_true]
    exact lq0
   ·have hlt:¬cur[j+1]<cur[j]:=by omega
    have e1:cur.getD j 0=cur[j]:=aJ om;have e2:cur.getD (j+1) 0=cur[j+1]:=aJ om;have e3:cur=uo l (i+1):=by rw[<-h5];simp only[inn,e1,e2,hlt,if_false]
    refine⟨i+1,h2,by omega,?_⟩;exact lq0
 ·repeat' ((conv=>whnf);first|exact kQ|(refine bk ?_ ?_<;>intro _<;>try(exfalso;omega))|refine stq ?_|fail)
  all_goals(conv=>whnf)
  have e:srt l=uo l i:=by rw[srt,show l.length-1=i from by omega]
  exact⟨Or.inl rfl,rfl,by rw[e]⟩
end
section
open Go Go.Am Classical
set_option maxRecDepth 100000
variable [GT]
theorem Aw {n:Nat}(hn:n<=12):Pu Tryz.prog 213 [.v (.int .u64 n)] (i64 (([0,1,2,2,3,3,3,3,4,4,4,4,4]:List Int).getD n 0)):=by
 rcases(by omega:n=0∨n=1∨n=2∨n=3∨n=4∨n=5∨n=6∨n=7∨n=8∨n=9∨n=10∨n=11∨n=12) with rfl|rfl|rfl|rfl|rfl|rfl|rfl|rfl|rfl|rfl|rfl|rfl|rfl
 all_goals
  refine pv Tryz.func213 ?_;repeat' ((conv=>whnf);first|refine zN.mk (by decide) (by decide) ?_|exact kQ|(refine bk ?_ ?_<;>intro _<;>try(exfalso;omega))|refine stq ?_|(apply Cll.inl aB T0 Tryz.func244 rfl rfl ?_;rotate_left)|exact⟨Or.inr rfl,rfl,rfl⟩|refine Chk.mk (tN (by decide) (by decide)) ?_|fail)
  all_goals(conv=>whnf)
  exact aC.same rfl rfl
theorem Sort_c {l:List Nat}(hl:l.length<=12) (hn:l≠[]):AC1 Tryz.prog 191 [.sl 0 0 l.length l.length 1 false] ⟨1,[(0,.cells (l.map cF) false)]⟩ (.tup []) ⟨25,[(0,.cells ((srt l).map cF) false)]⟩:=by
 have hlen:Pu Tryz.prog 213 [.v (.int .u64 (IntKind.u64.wrap (l.length:Int)))] (i64 (([0,1,2,2,3,3,3,3,4,4,4,4,4]:List Int).getD l.length 0)):=by
  rw[show IntKind.u64.wrap (l.length:Int)=(l.length:Int) from by simp[IntKind.wrap,IntKind.bits,IntKind.signed];omega];exact Aw hl
 refine AC1.of_vl aB T0 Tryz.func191 rfl rfl ?_;repeat' ((conv=>whnf);first|exact kQ|(refine bk ?_ ?_<;>intro _<;>try(exfalso;omega))|refine stq ?_|refine cp hlen ?_|(apply Cll.inl aB T0 Tryz.func212 rfl rfl ?_;rotate_left)|exact⟨Or.inr rfl,rfl,rfl⟩|refine aH.times aB T0 1 ?_|refine Cll.emb (inss_c hl hn) [(0,0)] [] (.tup []) [(0,.cells ((srt l).map cF) false)] [] rfl cI bxA rdA bxA reA ?_|fail)
 all_goals(conv=>whnf)
 exact⟨Or.inl rfl,rfl,rfl⟩
end
end Go.Proofs.YtbmdndckndnehaaGreatDoor
