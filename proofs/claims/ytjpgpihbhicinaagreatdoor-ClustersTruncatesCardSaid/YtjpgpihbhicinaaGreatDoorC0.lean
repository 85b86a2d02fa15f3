/-
  Contracts of functions over data: keys of sets.
-/
import Derived.Test.YtjpgpihbhicinaaGreatDoorChecked
import Derived.Test.YtjpgpihbhicinaaGreatDoorAmF
set_option linter.unusedSectionVars false
namespace Go.Proofs.YtjpgpihbhicinaaGreatDoor
section
open Go Go.Am Classical
set_option maxRecDepth 100000
variable [GT]
theorem aA:Tryz.prog.follows .mixedOrders=true:=by kernel_rfl
abbrev T0:TOk Tryz.prog (iB Tryz.prog):=Dv _
theorem sg{nb:Nat}{x:Code}{Q:Exit->St->Prop}{s:St}(h:iE Tryz.prog (iB Tryz.prog) nb x Q s):eW Tryz.prog nb x Q s:=eW.go aA T0 h
theorem Ev {l:List Int}(hl:l.length<=1000000):Pu Tryz.prog 131 [aQ l] (boo (decide (l=[0]))):=by
 refine Pu.of_v aA T0 Tryz.func131 rfl rfl (by simp[aB,aF]) ?_;repeat' ((conv=>whnf)<;>(first|refine sg ?_|exact kQ|(refine Br.mk ?_ ?_<;>intro _<;>try(exfalso;omega))|refine stq ?_))
 all_goals(conv=>whnf)
 all_goals first
  | exact aI.yes (by match l with|[x]=>simp_all)
  | exact aI.no (by rintro rfl;simp_all)
def jl (l:List Bool):Str:=l.map fun b=>if b then 1 else 0
theorem fu {l:List Bool}(hl:l.length<=1000000):Pu Tryz.prog 136 [bS l] (.str (jl l)):=by
 refine Pu.of_v aA T0 Tryz.func136 rfl rfl (by simp[aB,aS]) ?_;repeat' ((conv=>whnf)<;>(first|refine sg ?_|exact kQ|(refine Br.mk ?_ ?_<;>intro _<;>try(exfalso;omega))|refine stq ?_))
 refine aU.by aA T0 (fun k:Nat=>⟨tmp 23 [(3,.sl 0 0 l.length l.length 1 true),(9,bS l),(10,i64 l.length),(11,i64 (k:Int))],⟨1,[(0,.cells (ao l.length fun i=>.v (.int .u8 (if i<k∧l.getD i false then 1 else 0))) true)]⟩⟩)
  (fun k=>k<=l.length) (fun k=>l.length-k) 0 (by omega) ?_ ?_
 ·exact Lf.of2 [(0,_)] [] enA (by repeat(first|exact Bxs.nil|refine Bxs.cons rfl rfl rfl (by first|exact Rb.cells (Rds.eqs (bE (by omega) (fun i _=>by simp)) (aW (fun _=>rfl))) rfl|exact rbB|exact Rb.cells bK rfl|exact rbC|fail) ?_)) rfl rfl
 intro k h3;by_cases hk:k<l.length
 ·have eg:l.getD k false=l[k]:=aX hk;cases hb:l[k] with
  | true=>
   repeat' ((conv=>whnf)<;>(first|refine Idx.atE (d:=boo true) k rfl hk (by rw[hb]) ?_|refine sg ?_|exact kQ|(refine Br.mk ?_ ?_<;>intro _<;>try(exfalso;omega))|refine stq ?_|refine Put.one (by simp;omega) ?_|fail))
   all_goals(conv=>whnf)
   refine⟨k+1,by omega,by omega,?_⟩;exact Lf.of2 [(0,_)] [] enA (by repeat(first|exact Bxs.nil|refine Bxs.cons rfl rfl rfl (by first|exact Rb.cells (Rds.eqs (bq (by simp[hb,hk]) (fun i _ hi=>by simp only[show(i<k+1)=(i<k) from propext ⟨fun h=>by omega,fun h=>by omega⟩])) (aW (fun _=>rfl))) rfl|exact rbB|exact Rb.cells bK rfl|exact rbC|fail) ?_)) rfl rfl
  | false=>
   repeat' ((conv=>whnf)<;>(first|refine Idx.atE (d:=boo false) k rfl hk (by rw[hb]) ?_|refine sg ?_|exact kQ|(refine Br.mk ?_ ?_<;>intro _<;>try(exfalso;omega))|refine stq ?_|fail))
   all_goals(conv=>whnf)
   have e2:(ao l.length fun i=>D.v (.int .u8 (if i<k∧l.getD i false then 1 else 0)))=ao l.length fun i=>D.v (.int .u8 (if i<k+1∧l.getD i false then 1 else 0)):=jY fun i _=>by
    by_cases hi:i=k
    ·subst hi;rw[eg,hb];simp
    ·simp only[show(i<k+1)=(i<k) from propext ⟨fun h=>by omega,fun h=>by omega⟩]
   refine⟨k+1,by omega,by omega,?_⟩;exact Lf.of2 [(0,_)] [] enA (by repeat(first|exact Bxs.nil|refine Bxs.cons rfl rfl rfl (by first|exact Rb.cells (Rds.eqs e2 (aW (fun _=>rfl))) rfl|exact rbB|exact Rb.cells bK rfl|exact rbC|fail) ?_)) rfl rfl
 ·have hfin:(ao l.length fun i=>D.v (.int .u8 (if i<k∧l.getD i false then 1 else 0)))=(jl l).map byt:=by
   rw[jl,List.map_map];refine c7 fun i hi=>?_
   rw[aX hi];cases l[i]<;>simp[show i<k by omega]
  repeat' ((conv=>whnf)<;>(first|refine sg ?_|exact kQ|(refine Br.mk ?_ ?_<;>intro _<;>try(exfalso;omega))|refine stq ?_|refine Cvs.all (l:=jl l) hfin (by simp[jl]) ?_|fail))
  all_goals(conv=>whnf)
  exact aI.same rfl rfl
end
section
open Go Go.Am Classical
set_option maxRecDepth 100000
variable [GT]
def dig (k:Nat):Str:=if k<10 then [UInt8.ofNat (48+k)] else [UInt8.ofNat (48+k / 10),UInt8.ofNat (48+k % 10)]
theorem D5 {k:Nat}(hk:k<100):Pu Tryz.prog 234 [i64 k] (.str (dig k)):=by
 refine Pu.of_v aA T0 Tryz.func234 rfl rfl rfl ?_;have ew:IntKind.i64.wrap ((k:Int)*2)=(k:Int)*2:=by simp[IntKind.wrap,IntKind.bits,IntKind.signed];omega
 repeat' ((conv=>whnf)<;>(first|refine sg ?_|exact kQ|(refine Br.mk ?_ ?_<;>intro _<;>try(exfalso;omega))|refine stq ?_|refine Chk.mk ⟨by omega,by omega,show(_:Int)<=((36:Nat):Int) from by omega⟩ ?_|refine Chk.mk (by rw[ew];exact sI (by omega) (by omega)) ?_|refine Chk.mk (by rw[ew];exact⟨by omega,by omega,show(_:Int)<=((200:Nat):Int) from by omega⟩) ?_|fail))
 all_goals(conv=>whnf)
 all_goals
  refine aI.same rfl (congrArg D.str ?_);rename_i hk';clear ew;revert k;decide
def eY:List Nat->Str
 | []=>[]
 | k::l=>dig k++[32]++eY l
theorem oE:∀ l m,eY (l++m)=eY l++eY m
 | [],_=>rfl
 | k::l,m=>by simp[eY,oE l m]
abbrev dL (l:List Nat):D:=lst (fun k:Nat=>i64 (k:Int)) l
theorem bR (l:List Nat):aJ (dL l)=true:=ft (fun _=>rfl) l
theorem Ey (k:Nat):(dig k).length<=2:=by unfold dig;split<;>simp
theorem ri {l:List Nat}{k:Nat}(h:k<l.length):eY (l.take (k+1))=eY (l.take k)++(dig l[k]++[32]):=by
 rw[ba h,oE];simp[eY]
theorem BP {l:List Nat}:∀ k,(eY (l.take k)).length<=3*l.length:=fun k=>by
 have h:∀ m:List Nat,(eY m).length<=3*m.length:=by
  intro m;induction m with
  | nil=>simp[eY]
  | cons a m ih=>have:=Ey a;simp[eY];omega
 have:=h (l.take k);simp at this;omega
abbrev bytC (b:UInt8):List D:=[byt b]
theorem qE:∀ s:Str,eh (mO s)=true
 | []=>rfl
 | _::s=>qE s
theorem pM (s r:Str){n:Nat}{cs:List D}(hn:n=s.length) (e:cs=s.flatMap bytC):(cs.drop 0).take (n*1)++mO r=(s++r).flatMap bytC:=by
 subst e;subst hn;rw[List.drop_zero,kE (by simp[ac]),List.flatMap_append];simp only[mO,ac]
theorem dT {l:List Nat}(hl:l.length<=1000000) (hs:∀ i (h:i<l.length),l[i]<100):Pu Tryz.prog 130 [dL l] (.str (eY l)):=by
 refine Pu.of_v aA T0 Tryz.func130 rfl rfl (by simp[aB,bR]) ?_;repeat' ((conv=>whnf)<;>(first|refine sg ?_|exact kQ|(refine Br.mk ?_ ?_<;>intro _<;>try(exfalso;omega))|refine stq ?_))
 refine aU.by2 aA T0 (fun(k:Nat) (o:Str)=>⟨tmp 21 [(3,ai 0 1 o),(6,dL l),(7,i64 l.length),(8,i64 (k:Int))],⟨1,cW 0 bytC o⟩⟩)
  (fun k o=>k<=l.length∧o=eY (l.take k)) (fun k _=>l.length-k) 0 [] ⟨by omega,rfl⟩ ?_ ?_
 ·exact Lf.of2 [] [] enA bxA rfl rfl
 intro k o ⟨h3,h4⟩;by_cases hk:k<l.length
 ·have h5:=hs k hk;have ew1:IntKind.u64.wrap ((l[k]:Nat):Int)=((l[k]:Nat):Int):=by simp[IntKind.wrap,IntKind.bits,IntKind.signed];omega
  have ew2:IntKind.i64.wrap (IntKind.u64.wrap ((l[k]:Nat):Int))=((l[k]:Nat):Int):=by rw[ew1];simp[IntKind.wrap,IntKind.bits,IntKind.signed];omega
  obtain⟨x0,xs0,hd,hx⟩:∃ x0 xs0,dig l[k]=x0::xs0∧xs0.length<=1:=by
   unfold dig;split
   ·exact⟨_,_,rfl,by simp⟩
   ·exact⟨_,_,rfl,by simp⟩
  have hx2:(x0::xs0).length=xs0.length+1:=rfl;have hsm:Pu Tryz.prog 234 [i64 (IntKind.i64.wrap (IntKind.u64.wrap ((l[k]:Nat):Int)))] (.str (x0::xs0)):=by rw[ew2,<-hd];exact D5 h5
  cases o with
  | nil=>
   repeat' ((conv=>whnf)<;>(first|refine sg ?_|exact kQ|(refine Br.mk ?_ ?_<;>intro _<;>try(exfalso;omega))|refine stq ?_|(apply Cll.inl aA T0 Tryz.func161 rfl rfl ?_;rotate_left)|(apply Cll.inl aA T0 Tryz.func184 rfl rfl ?_;rotate_left)|(apply Cll.inl aA T0 Tryz.func210 rfl rfl ?_;rotate_left)|exact⟨Or.inr rfl,rfl,rfl⟩|refine Cll.pu hsm ?_|refine Chk.growX 1 1 rfl rfl (by omega) (by omega) (by simp[mO]) ?_|fail))
   all_goals(conv=>whnf)
   refine⟨k+1,x0::(xs0++[32]),⟨by omega,by rw[ri hk,<-h4,hd];simp⟩,by omega,?_⟩;exact Lf.of2 [(0,_)] [] (by repeat(first|exact aM.nil|refine aM.cons rfl (by first|exact Rd.sl' rfl (by simp) (by simp)|exact rdA|fail) ?_)) (by repeat(first|exact Bxs.nil|refine Bxs.cons rfl rfl rfl (by first|exact Rb.cells (Rds.eqs (pM (x0::xs0) [32] rfl (by simp only[mO,ac])) (aD (by intro _;rfl) _)) rfl|exact rbB|exact Rb.cells (by(repeat(first|exact Rds.nil|refine Rds.cons (by first|exact Rd.sl' rfl (by simp) (by simp)|exact rdA|fail) ?_|fail));(first|done|fail)) rfl|exact rbC|fail) ?_)) rfl rfl
  | cons x xs=>
   have hx3:(x::xs).length<=3*l.length:=by rw[h4];exact BP k
   repeat' ((conv=>whnf)<;>(first|refine sg ?_|exact kQ|(refine Br.mk ?_ ?_<;>intro _<;>try(exfalso;omega))|refine stq ?_|(apply Cll.inl aA T0 Tryz.func161 rfl rfl ?_;rotate_left)|(apply Cll.inl aA T0 Tryz.func184 rfl rfl ?_;rotate_left)|(apply Cll.inl aA T0 Tryz.func210 rfl rfl ?_;rotate_left)|exact⟨Or.inr rfl,rfl,rfl⟩|refine Cll.pu hsm ?_|refine Chk.mk (qE _) ?_|refine Chk.growX 1 1 rfl rfl (by omega) (by omega) (by rw[pM (x::xs) (x0::xs0) rfl rfl,ac];simp;omega) ?_|fail))
   all_goals(conv=>whnf)
   refine⟨k+1,x::(xs++(x0::(xs0++[32]))),⟨by omega,by rw[ri hk,<-h4,hd];simp⟩,by omega,?_⟩;have e2:((x::xs)++(x0::xs0))++[32]=x::(xs++(x0::(xs0++[32]))):=by simp
   exact Lf.of2 [(0,_)] [] (by repeat(first|exact aM.nil|refine aM.cons rfl (by first|exact Rd.sl' rfl (by simp;omega) (by simp;omega)|exact rdA|fail) ?_)) (by repeat(first|exact Bxs.nil|refine Bxs.cons rfl rfl rfl (by first|exact Rb.cells (Rds.eqs ((pM ((x::xs)++(x0::xs0)) [32] (by simp;omega) (pM (x::xs) (x0::xs0) rfl rfl)).trans (by rw[e2])) (aD (by intro _;rfl) _)) rfl|exact rbB|exact Rb.cells (by(repeat(first|exact Rds.nil|refine Rds.cons (by first|exact Rd.sl' rfl (by simp;omega) (by simp;omega)|exact rdA|fail) ?_|fail));(first|done|fail)) rfl|exact rbC|fail) ?_)) rfl rfl
 ·have hfin:eY l=o:=by rw[h4,kE (by omega)]
  rw[hfin];cases o with
  | nil=>
   repeat' ((conv=>whnf)<;>(first|refine sg ?_|exact kQ|(refine Br.mk ?_ ?_<;>intro _<;>try(exfalso;omega))|refine stq ?_|fail))
   all_goals(conv=>whnf)
   exact aI.same rfl rfl
  | cons x xs=>
   repeat' ((conv=>whnf)<;>(first|refine sg ?_|exact kQ|(refine Br.mk ?_ ?_<;>intro _<;>try(exfalso;omega))|refine stq ?_|refine Cvs.all (l:=x::xs) (ac _) rfl ?_|fail))
   all_goals(conv=>whnf)
   exact aI.same rfl rfl
end
section
open Go Go.Am Classical
set_option maxRecDepth 100000
variable [GT]
theorem zZ {l:List Int}{x:Int}(hl:l.length<=1000000):Pu Tryz.prog 185 [aQ l,i64 x] (i64 (if x∈l then l.idxOf x else -1)):=by
 refine Pu.of_v aA T0 Tryz.func185 rfl rfl (by simp[aJ,aB,aF]) ?_;repeat' ((conv=>whnf)<;>(first|refine sg ?_|exact kQ|(refine Br.mk ?_ ?_<;>intro _<;>try(exfalso;omega))|refine stq ?_))
 refine aU.by aA T0 (fun k:Nat=>⟨tmp 19 [(0,aQ l),(1,i64 x),(7,i64 l.length),(8,i64 (k:Int))],⟨0,[]⟩⟩)
  (fun k=>k<=l.length∧¬x∈l.take k) (fun k=>l.length-k) 0 ⟨by omega,by simp⟩ ?_ ?_
 ·exact Lf.of2 [] [] enA bxA rfl rfl
 intro k ⟨h3,h4⟩;repeat' ((conv=>whnf)<;>(first|refine sg ?_|exact kQ|(refine Br.mk ?_ ?_<;>intro _<;>try(exfalso;omega))|refine stq ?_))
 all_goals(conv=>whnf)
 all_goals first
  | (refine aI.int ?_
     have hk:k<l.length:=by omega
     have e:x=l[k]:=by assumption
     rw[if_pos (by rw[e];exact kM hk)]
     have h1:l.idxOf x<=k:=Nat.le_of_not_lt fun hlt=>by
      have:=List.not_of_lt_findIdx hlt
      simp[e] at this
     have h2:¬l.idxOf x<k:=fun hlt=>h4 (by rw[List.mem_take_iff_getElem];exact⟨l.idxOf x,by omega,by simp⟩)
     congr 1
     omega)
  | exact aI.int (by rw[kE (by omega)] at h4;rw[if_neg h4])
  | (refine⟨k+1,⟨by omega,by rw[ba (by omega)];simp only[List.mem_append,List.mem_singleton,not_or];exact⟨h4,by assumption⟩⟩,by omega,?_⟩
     exact Lf.of2 [] [] enA bxA rfl rfl)
theorem dp {l:List Int}{x:Int}(hl:l.length<=1000000):Pu Tryz.prog 162 [aQ l,i64 x] (boo (decide (x∈l))):=by
 refine Pu.of_v aA T0 Tryz.func162 rfl rfl (by simp[aJ,aB,aF]) ?_;repeat' ((conv=>whnf)<;>(first|refine sg ?_|exact kQ|(refine Br.mk ?_ ?_<;>intro _<;>try(exfalso;omega))|refine stq ?_|refine Cll.pu (zZ sd) ?_|refine aO.pu (zZ sd) ?_))
 all_goals(conv=>whnf)
 all_goals first
  | exact aI.yes (by rename_i hc;exact Classical.byContradiction fun hm=>by rw[if_neg hm] at hc;omega)
  | exact aI.no (by rename_i hc;intro hm;rw[if_pos hm] at hc;omega)
theorem pG {x:Int}:Pu Tryz.prog 205 [i64 x] (boo false):=by
 refine Pu.of_v aA T0 Tryz.func205 rfl rfl rfl ?_;repeat' ((conv=>whnf)<;>(first|refine sg ?_|exact kQ|(refine Br.mk ?_ ?_<;>intro _<;>try(exfalso;omega))|refine stq ?_))
 all_goals(conv=>whnf)
 exact aI.same rfl rfl
theorem De {x y:Int}:Pu Tryz.prog 217 [i64 x,i64 y] (boo (decide (x<y))):=by
 refine Pu.of_v aA T0 Tryz.func217 rfl rfl rfl ?_;repeat' ((conv=>whnf)<;>(first|refine sg ?_|exact kQ|(refine Br.mk ?_ ?_<;>intro _<;>try(exfalso;omega))|refine stq ?_|refine Cll.pu (pG) ?_|refine aO.pu (pG) ?_))
 all_goals(conv=>whnf)
 all_goals first
  | exact aI.yes (by assumption)
  | exact aI.no (by assumption)
def swp (l:List Nat) (j:Nat):List Nat:=(l.set (j+1) (l.getD j 0)).set j (l.getD (j+1) 0)
def inn:List Nat->Nat->List Nat
 | l,0=>l
 | l,j+1=>if l.getD (j+1) 0<l.getD j 0 then inn (swp l j) j else l
def tp (l:List Nat):Nat->List Nat
 | 0=>l
 | i+1=>inn (tp l i) (i+1)
def srt (l:List Nat):List Nat:=tp l (l.length-1)
@[simp] theorem swp_len (l:List Nat) (j:Nat):(swp l j).length=l.length:=by simp[swp]
@[simp] theorem inn_len:∀ (j:Nat) (l:List Nat),(inn l j).length=l.length
 | 0,l=>rfl
 | j+1,l=>by
  unfold inn;split
  ·rw[inn_len j,swp_len]
  ·rfl
@[simp] theorem insr_len (l:List Nat):∀ i,(tp l i).length=l.length
 | 0=>rfl
 | i+1=>by simp[tp,insr_len l i]
abbrev cZ (k:Nat):D:=i64 (k:Int)
theorem inss_c {l:List Nat}(hl:l.length<=12) (hn:l≠[]):AC1 Tryz.prog 211 [.sl 0 0 l.length l.length 1 false,i64 0,i64 l.length] ⟨1,[(0,.cells (l.map cZ) false)]⟩ (.tup []) ⟨4,[(0,.cells ((srt l).map cZ) false)]⟩:=by
 have h0:0<l.length:=List.length_pos_iff.2 hn;refine AC1.of_vl aA T0 Tryz.func211 rfl rfl ?_;repeat' ((conv=>whnf)<;>(first|refine sg ?_|exact kQ|(refine Br.mk ?_ ?_<;>intro _<;>try(exfalso;omega))|refine stq ?_))
 refine aU.by aA T0 (fun i:Nat=>⟨tmp 49 [(0,.sl 0 0 l.length l.length 1 false),(1,i64 0),(2,i64 l.length),(6,i64 ((i+1:Nat):Int))],⟨1,[(0,.cells ((tp l i).map cZ) false)]⟩⟩)
  (fun i=>i<l.length) (fun i=>l.length-i) 0 h0 ?_ ?_
 ·exact Lf.of2 [] [] enA bxA rfl rfl
 intro i h1;by_cases h2:i+1<l.length
 ·repeat' ((conv=>whnf)<;>(first|refine sg ?_|exact kQ|(refine Br.mk ?_ ?_<;>intro _<;>try(exfalso;omega))|refine stq ?_|fail))
  refine aU.by2 aA T0 (fun(j:Nat) (cur:List Nat)=>⟨tmp 49 [(0,.sl 0 0 l.length l.length 1 false),(1,i64 0),(2,i64 l.length),(6,i64 ((i+1:Nat):Int)),(7,i64 (j:Int))],⟨1,[(0,.cells (cur.map cZ) false)]⟩⟩)
   (fun j cur=>j<l.length∧cur.length=l.length∧inn cur j=tp l (i+1)) (fun j _=>j) (i+1) (tp l i) ⟨h2,by simp,rfl⟩ ?_ ?_
  ·exact Lf.of2 [] [] enA bxA rfl rfl
  intro j cur ⟨h3,h4,h5⟩;cases j with
  | zero=>
   repeat' ((conv=>whnf)<;>(first|refine sg ?_|exact kQ|(refine Br.mk ?_ ?_<;>intro _<;>try(exfalso;omega))|refine stq ?_|refine bJ.by (id:=4) aA T0 [0,0,3,7,15,15,63,127,15,15,527,1807,3855,8191,16383] (by kernel_rfl) ?_|fail))
   all_goals(conv=>whnf)
   refine⟨i+1,h2,by omega,?_⟩;exact Lf.of2 [] [] enA (by repeat(first|exact Bxs.nil|refine Bxs.cons rfl rfl rfl (by first|exact Rb.cells (Rds.eqs (by rw[<-h5];rfl) (aZ (fun _=>rfl) _)) rfl|exact rbB|exact Rb.cells bK rfl|exact rbC|fail) ?_)) rfl rfl
  | succ j=>
   repeat' ((conv=>whnf)<;>(first|refine sg ?_|exact kQ|(refine Br.mk ?_ ?_<;>intro _<;>try(exfalso;omega))|refine stq ?_|refine Cll.dec (De) (fun _=>?_) (fun _=>?_)|refine aO.dec (De) (fun _=>?_) (fun _=>?_)|refine bJ.by (id:=4) aA T0 [0,0,3,7,15,15,63,127,15,15,527,1807,3855,8191,16383] (by kernel_rfl) ?_|refine bJ.by (id:=6) aA T0 [0,0,0,0,8,0,0,64,224,480,0,0,3072,7168,16355,32739,65535,131071] (by kernel_rfl) ?_|refine ca.at (j+1) (by omega) (by omega) ?_|refine ca.at j (by omega) (by omega) ?_|refine Get.map (by omega) ?_|refine Put.one (by simp;omega) ?_|fail))
   all_goals(conv=>whnf)
   ·have hlt:cur[j+1]<cur[j]:=by omega
    have e1:cur.getD j 0=cur[j]:=aX (by omega);have e2:cur.getD (j+1) 0=cur[j+1]:=aX (by omega)
    have e3:((cur.map cZ).set (j+1) (cZ cur[j])).set j (cZ cur[j+1])=(swp cur j).map cZ:=by
     rw[swp,e1,e2,List.map_set,List.map_set]
    refine⟨j,swp cur j,⟨by omega,by simp[h4],?_⟩,by omega,?_⟩
    ·rw[<-h5];simp only[inn,e1,e2,hlt,if_true]
    exact Lf.of2 [] [] enA (by repeat(first|exact Bxs.nil|refine Bxs.cons rfl rfl rfl (by first|exact Rb.cells (Rds.eqs e3 (aZ (fun _=>rfl) _)) rfl|exact rbB|exact Rb.cells bK rfl|exact rbC|fail) ?_)) rfl rfl
   ·have hlt:¬cur[j+1]<cur[j]:=by omega
    have e1:cur.getD j 0=cur[j]:=aX (by omega);have e2:cur.getD (j+1) 0=cur[j+1]:=aX (by omega);have e3:cur=tp l (i+1):=by rw[<-h5];simp only[inn,e1,e2,hlt,if_false]
    refine⟨i+1,h2,by omega,?_⟩;exact Lf.of2 [] [] enA (by repeat(first|exact Bxs.nil|refine Bxs.cons rfl rfl rfl (by first|exact Rb.cells (Rds.eqs (by rw[<-e3]) (aZ (fun _=>rfl) _)) rfl|exact rbB|exact Rb.cells bK rfl|exact rbC|fail) ?_)) rfl rfl
 ·repeat' ((conv=>whnf)<;>(first|refine sg ?_|exact kQ|(refine Br.mk ?_ ?_<;>intro _<;>try(exfalso;omega))|refine stq ?_|fail))
  all_goals(conv=>whnf)
  have e:srt l=tp l i:=by rw[srt,show l.length-1=i from by omega]
  exact⟨Or.inl rfl,rfl,by rw[e]⟩
end
section
open Go Go.Am Classical
set_option maxRecDepth 100000
variable [GT]
theorem zY {n:Nat}(hn:n<=12):Pu Tryz.prog 187 [.v (.int .u64 n)] (i64 (([0,1,2,2,3,3,3,3,4,4,4,4,4]:List Int).getD n 0)):=by
 rcases(by omega:n=0∨n=1∨n=2∨n=3∨n=4∨n=5∨n=6∨n=7∨n=8∨n=9∨n=10∨n=11∨n=12) with rfl|rfl|rfl|rfl|rfl|rfl|rfl|rfl|rfl|rfl|rfl|rfl|rfl
 all_goals
  refine Pu.of_v aA T0 Tryz.func187 rfl rfl rfl ?_;repeat' ((conv=>whnf)<;>(first|refine x9.mk (by decide) (by decide) ?_|refine sg ?_|exact kQ|(refine Br.mk ?_ ?_<;>intro _<;>try(exfalso;omega))|refine stq ?_|(apply Cll.inl aA T0 Tryz.func221 rfl rfl ?_;rotate_left)|exact⟨Or.inr rfl,rfl,rfl⟩|refine Chk.mk (sI (by decide) (by decide)) ?_|fail))
  all_goals(conv=>whnf)
  exact aI.same rfl rfl
theorem Sort_c {l:List Nat}(hl:l.length<=12) (hn:l≠[]):AC1 Tryz.prog 165 [.sl 0 0 l.length l.length 1 false] ⟨1,[(0,.cells (l.map cZ) false)]⟩ (.tup []) ⟨25,[(0,.cells ((srt l).map cZ) false)]⟩:=by
 have hlen:Pu Tryz.prog 187 [.v (.int .u64 (IntKind.u64.wrap (l.length:Int)))] (i64 (([0,1,2,2,3,3,3,3,4,4,4,4,4]:List Int).getD l.length 0)):=by
  rw[show IntKind.u64.wrap (l.length:Int)=(l.length:Int) from by simp[IntKind.wrap,IntKind.bits,IntKind.signed];omega];exact zY hl
 refine AC1.of_vl aA T0 Tryz.func165 rfl rfl ?_;repeat' ((conv=>whnf)<;>(first|refine sg ?_|exact kQ|(refine Br.mk ?_ ?_<;>intro _<;>try(exfalso;omega))|refine stq ?_|refine Cll.pu hlen ?_|(apply Cll.inl aA T0 Tryz.func186 rfl rfl ?_;rotate_left)|exact⟨Or.inr rfl,rfl,rfl⟩|refine aU.times aA T0 1 ?_|refine Cll.emb (inss_c hl hn) [(0,0)] [] (.tup []) [(0,.cells ((srt l).map cZ) false)] [] rfl bK bxA rdA bxA (by(repeat(first|exact aj.nil|refine aj.cons rfl rfl rfl ?_|fail));(first|done|fail)) ?_|fail))
 all_goals(conv=>whnf)
 exact⟨Or.inl rfl,rfl,rfl⟩
end
end Go.Proofs.YtjpgpihbhicinaaGreatDoor
