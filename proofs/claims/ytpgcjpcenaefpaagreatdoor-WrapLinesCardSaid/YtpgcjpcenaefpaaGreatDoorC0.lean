/-
  Contracts of functions over data: keys of sets.
-/
import Derived.Test.YtpgcjpcenaefpaaGreatDoorChecked
import Derived.Test.YtpgcjpcenaefpaaGreatDoorAmF
set_option linter.unusedSectionVars false
namespace Go.Proofs.YtpgcjpcenaefpaaGreatDoor
section
open Go Go.Am Classical
set_option maxRecDepth 100000
theorem xC0.rbX {p:Prop}(h:p:=by first|exact Rb.cells (Rds.eqs e2 (ai (λ_=>rfl))) rfl|exact Rb.cells (Rds.eqs (bJ om (λi _=>by first|(simp;done)|fail)) (ai (λ_=>rfl))) rfl|exact Rb.cells (Rds.eqs (bQ (by first|(simp[hb,hk];done)|fail) (λi _ hi=>by first|(simp only[show(i<k+1)=(i<k) from propext ⟨λh=>om,λh=>om⟩];done)|fail)) (ai (λ_=>rfl))) rfl|fail):p:=h
open xC0
variable [GT]
theorem aB:Tryz.prog.follows .mixedOrders=true:=by kernel_rfl
instance:Mx Tryz.prog:=⟨aB⟩
abbrev T0:TOk Tryz.prog (cg Tryz.prog):=uX _
theorem IC {l:List Int}(hl:l.length<=1000000):Pu Tryz.prog 143 [aD l] (boo (decide (l=[0]))):=by
 refine pv Tryz.func143 ?_;repeat' ((conv=>whnf);first|exact kQ|(refine bk ?_ ?_<;>intro _<;>try exact exo)|refine stq ?_)
 all_goals(conv=>whnf)
 all_goals first
  | exact aC.yes (by match l with|[x]=>simp_all)
  | exact aC.no (by rintro rfl;simp_all)
def jr (l:List Bool):Str:=l.map λb=>if b then 1 else 0
theorem oB {l:List Bool}(hl:l.length<=1000000):Pu Tryz.prog 148 [az l] (.str (jr l)):=by
 refine pv Tryz.func148 ?_;repeat' ((conv=>whnf);first|exact kQ|(refine bk ?_ ?_<;>intro _<;>try exact exo)|refine stq ?_)
 refine aG.by aB T0 (λk:Nat=>⟨tmp 23 [(3,.sl 0 0 l.length l.length 1 true),(9,az l),(10,i64 l.length),(11,i64 (k:Int))],⟨1,[(0,.cells (aX l.length λi=>.v (.int .u8 (if i<k/\l.getD i false then 1 else 0))) true)]⟩⟩)
  (λk=>k<=l.length) (λk=>l.length-k) 0 om ?_ ?_
 .exact lq [(0,_)] []
 intro k h3;by_cases hk:k<l.length
 .have eg:l.getD k false=l[k]:=aI hk;cases hb:l[k] with
  | true=>
   repeat' ((conv=>whnf);first|refine Idx.atE (d:=boo true) k rfl hk (by rw[hb]) ?_|exact kQ|(refine bk ?_ ?_<;>intro _<;>try exact exo)|refine stq ?_|refine Put.one (by simp;omega) ?_|fail)
   all_goals(conv=>whnf)
   refine⟨k+1,om,om,?_⟩;exact lq [(0,_)] []
  | false=>
   repeat' ((conv=>whnf);first|refine Idx.atE (d:=boo false) k rfl hk (by rw[hb]) ?_|exact kQ|(refine bk ?_ ?_<;>intro _<;>try exact exo)|refine stq ?_|fail)
   all_goals(conv=>whnf)
   have e2:(aX l.length λi=>D.v (.int .u8 (if i<k/\l.getD i false then 1 else 0)))=aX l.length λi=>D.v (.int .u8 (if i<k+1/\l.getD i false then 1 else 0)):=cX λi _=>by
    by_cases hi:i=k
    .subst hi;rw[eg,hb];simp
    .simp only[show(i<k+1)=(i<k) from propext ⟨λh=>om,λh=>om⟩]
   refine⟨k+1,om,om,?_⟩;exact lq [(0,_)] []
 .have hfin:(aX l.length λi=>D.v (.int .u8 (if i<k/\l.getD i false then 1 else 0)))=(jr l).map byt:=by
   rw[jr,List.map_map];refine cq λi hi=>?_
   rw[aI hi];cases l[i]<;>simp[show i<k by omega]
  repeat' ((conv=>whnf);first|exact kQ|(refine bk ?_ ?_<;>intro _<;>try exact exo)|refine stq ?_|refine Cvs.all (l:=jr l) hfin (by simp[jr]) ?_|fail)
  all_goals(conv=>whnf)
  exact aC.same rfl rfl
end
section
open Go Go.Am Classical
set_option maxRecDepth 100000
theorem xC1.rdX {p:Prop}(h:p:=by first|exact Rd.sl' rfl sim sim|fail):p:=h
theorem xC1.rbX {p:Prop}(h:p:=by first|exact Rb.cells (Rds.eqs (pb (x0::xs0) [32] rfl (by first|(simp only[mR,aN];done)|fail)) (aE (by intro _;rfl) _)) rfl|exact Rb.cells (Rds.eqs ((pb ((x::xs)++(x0::xs0)) [32] sim (pb (x::xs) (x0::xs0) rfl rfl)).trans (by first|(rw[e2];done)|fail)) (aE (by intro _;rfl) _)) rfl|fail):p:=h
open xC1
variable [GT]
def dig (k:Nat):Str:=if k<10 then [UInt8.ofNat (48+k)] else [UInt8.ofNat (48+k / 10),UInt8.ofNat (48+k % 10)]
theorem Gs {k:Nat}(hk:k<100):Pu Tryz.prog 259 [i64 k] (.str (dig k)):=by
 refine pv Tryz.func259 ?_;have ew:IntKind.i64.wrap ((k:Int)*2)=(k:Int)*2:=by simp[IntKind.wrap,IntKind.bits,IntKind.signed];omega
 repeat' ((conv=>whnf);first|exact kQ|(refine bk ?_ ?_<;>intro _<;>try exact exo)|refine stq ?_|refine Chk.mk ⟨om,om,show(_:Int)<=((36:Nat):Int) from om⟩ ?_|refine Chk.mk (by rw[ew];exact ot om om) ?_|refine Chk.mk (by rw[ew];exact⟨om,om,show(_:Int)<=((200:Nat):Int) from om⟩) ?_|fail)
 all_goals(conv=>whnf)
 all_goals
  refine aC.same rfl (congrArg D.str ?_);rename_i hk';clear ew;revert k;decide
def eV:List Nat->Str
 | []=>[]
 | k::l=>dig k++[32]++eV l
theorem oS:∀ l m,eV (l++m)=eV l++eV m
 | [],_=>rfl
 | k::l,m=>by simp[eV,oS l m]
abbrev dG (l:List Nat):D:=lst (λk:Nat=>i64 (k:Int)) l
theorem bz (l:List Nat):aK (dG l)=true:=fQ (λ_=>rfl) l
theorem ID (k:Nat):(dig k).length<=2:=by unfold dig;split<;>simp
theorem sq {l:List Nat}{k:Nat}(h:k<l.length):eV (l.take (k+1))=eV (l.take k)++(dig l[k]++[32]):=by
 rw[bE h,oS];simp[eV]
theorem D3 {l:List Nat}:∀ k,(eV (l.take k)).length<=3*l.length:=λk=>by
 have h:∀ m:List Nat,(eV m).length<=3*m.length:=by
  intro m;induction m with
  | nil=>simp[eV]
  | cons a m ih=>have:=ID a;simp[eV];omega
 have:=h (l.take k);simp at this;omega
abbrev bytC (b:UInt8):List D:=[byt b]
theorem qZ:∀ s:Str,ee (mR s)=true
 | []=>rfl
 | _::s=>qZ s
theorem pb (s r:Str){n:Nat}{cs:List D}(hn:n=s.length) (e:cs=s.flatMap bytC):(cs.drop 0).take (n*1)++mR r=(s++r).flatMap bytC:=by
 subst e;subst hn;rw[List.drop_zero,kE (by simp[aN]),List.flatMap_append];simp only[mR,aN]
theorem fd {l:List Nat}(hl:l.length<=1000000) (hs:∀ i (h:i<l.length),l[i]<100):Pu Tryz.prog 142 [dG l] (.str (eV l)):=by
 refine pv Tryz.func142 ?_;repeat' ((conv=>whnf);first|exact kQ|(refine bk ?_ ?_<;>intro _<;>try exact exo)|refine stq ?_)
 refine aG.by2 aB T0 (λ(k:Nat) (o:Str)=>⟨tmp 21 [(3,aP 0 1 o),(6,dG l),(7,i64 l.length),(8,i64 (k:Int))],⟨1,bK 0 bytC o⟩⟩)
  (λk o=>k<=l.length/\o=eV (l.take k)) (λk _=>l.length-k) 0 [] ⟨om,rfl⟩ ?_ ?_
 .exact lq0
 intro k o ⟨h3,h4⟩;by_cases hk:k<l.length
 .have h5:=hs k hk;have ew1:IntKind.u64.wrap ((l[k]:Nat):Int)=((l[k]:Nat):Int):=by simp[IntKind.wrap,IntKind.bits,IntKind.signed];omega
  have ew2:IntKind.i64.wrap (IntKind.u64.wrap ((l[k]:Nat):Int))=((l[k]:Nat):Int):=by rw[ew1];simp[IntKind.wrap,IntKind.bits,IntKind.signed];omega
  obtain⟨x0,xs0,hd,hx⟩:∃ x0 xs0,dig l[k]=x0::xs0/\xs0.length<=1:=by
   unfold dig;split
   .exact⟨_,_,rfl,si⟩
   .exact⟨_,_,rfl,si⟩
  have hx2:(x0::xs0).length=xs0.length+1:=rfl;have hsm:Pu Tryz.prog 259 [i64 (IntKind.i64.wrap (IntKind.u64.wrap ((l[k]:Nat):Int)))] (.str (x0::xs0)):=by rw[ew2,<-hd];exact Gs h5
  cases o with
  | nil=>
   repeat' ((conv=>whnf);first|exact kQ|(refine bk ?_ ?_<;>intro _<;>try exact exo)|refine stq ?_|(apply Cll.inl aB T0 Tryz.func181 rfl rfl ?_;rotate_left)|(apply Cll.inl aB T0 Tryz.func212 rfl rfl ?_;rotate_left)|(apply Cll.inl aB T0 Tryz.func236 rfl rfl ?_;rotate_left)|exact⟨Or.inr rfl,rfl,rfl⟩|refine cp hsm ?_|refine Chk.growX 1 1 rfl rfl om om (by simp[mR]) ?_|fail)
   all_goals(conv=>whnf)
   refine⟨k+1,x0::(xs0++[32]),⟨om,by rw[sq hk,<-h4,hd];simp⟩,om,?_⟩;exact lq [(0,_)] []
  | cons x xs=>
   have hx3:(x::xs).length<=3*l.length:=by rw[h4];exact D3 k
   repeat' ((conv=>whnf);first|exact kQ|(refine bk ?_ ?_<;>intro _<;>try exact exo)|refine stq ?_|(apply Cll.inl aB T0 Tryz.func181 rfl rfl ?_;rotate_left)|(apply Cll.inl aB T0 Tryz.func212 rfl rfl ?_;rotate_left)|(apply Cll.inl aB T0 Tryz.func236 rfl rfl ?_;rotate_left)|exact⟨Or.inr rfl,rfl,rfl⟩|refine cp hsm ?_|refine Chk.mk (qZ _) ?_|refine Chk.growX 1 1 rfl rfl om om (by rw[pb (x::xs) (x0::xs0) rfl rfl,aN];simp;omega) ?_|fail)
   all_goals(conv=>whnf)
   refine⟨k+1,x::(xs++(x0::(xs0++[32]))),⟨om,by rw[sq hk,<-h4,hd];simp⟩,om,?_⟩;have e2:((x::xs)++(x0::xs0))++[32]=x::(xs++(x0::(xs0++[32]))):=by simp
   exact lq [(0,_)] []
 .have hfin:eV l=o:=by rw[h4,kE om]
  rw[hfin];cases o with
  | nil=>
   repeat' ((conv=>whnf);first|exact kQ|(refine bk ?_ ?_<;>intro _<;>try exact exo)|refine stq ?_|fail)
   all_goals(conv=>whnf)
   exact aC.same rfl rfl
  | cons x xs=>
   repeat' ((conv=>whnf);first|exact kQ|(refine bk ?_ ?_<;>intro _<;>try exact exo)|refine stq ?_|refine Cvs.all (l:=x::xs) (aN _) rfl ?_|fail)
   all_goals(conv=>whnf)
   exact aC.same rfl rfl
end
section
open Go Go.Am Classical
set_option maxRecDepth 100000
theorem xC2.rbX {p:Prop}(h:p:=by first|exact Rb.cells (Rds.eqs e3 (aT (λ_=>rfl) _)) rfl|exact Rb.cells (Rds.eqs (by first|(rw[<-h5];rfl;done)|fail) (aT (λ_=>rfl) _)) rfl|exact Rb.cells (Rds.eqs (by first|(rw[<-e3];done)|fail) (aT (λ_=>rfl) _)) rfl|fail):p:=h
open xC2
variable [GT]
theorem Ie {l:List Int}{x:Int}(hl:l.length<=1000000):Pu Tryz.prog 213 [aD l,i64 x] (i64 (if x∈l then l.idxOf x else -1)):=by
 refine pv Tryz.func213 ?_;repeat' ((conv=>whnf);first|exact kQ|(refine bk ?_ ?_<;>intro _<;>try exact exo)|refine stq ?_)
 refine aG.by aB T0 (λk:Nat=>⟨tmp 19 [(0,aD l),(1,i64 x),(7,i64 l.length),(8,i64 (k:Int))],⟨0,[]⟩⟩)
  (λk=>k<=l.length/\¬x∈l.take k) (λk=>l.length-k) 0 ⟨om,si⟩ ?_ ?_
 .exact lq0
 intro k ⟨h3,h4⟩;repeat' ((conv=>whnf);first|exact kQ|(refine bk ?_ ?_<;>intro _<;>try exact exo)|refine stq ?_)
 all_goals(conv=>whnf)
 all_goals first
  | (refine aC.int ?_
     have hk:k<l.length:=om;have e:x=l[k]:=by assumption
     rw[if_pos (by rw[e];exact kM hk)]
     have h1:l.idxOf x<=k:=Nat.le_of_not_lt λhlt=>by
      have:=List.not_of_lt_findIdx hlt
      simp[e] at this
     have h2:¬l.idxOf x<k:=λhlt=>h4 (by rw[List.mem_take_iff_getElem];exact⟨l.idxOf x,om,si⟩)
     congr 1
     omega)
  | exact aC.int (by rw[kE om] at h4;rw[if_neg h4])
  | (refine⟨k+1,⟨om,by rw[bE om];simp only[List.mem_append,List.mem_singleton,not_or];exact⟨h4,asm⟩⟩,om,?_⟩
     exact lq0)
theorem jg {l:List Int}{x:Int}(hl:l.length<=1000000):Pu Tryz.prog 182 [aD l,i64 x] (boo (decide (x∈l))):=by
 refine pv Tryz.func182 ?_;repeat' ((conv=>whnf);first|exact kQ|(refine bk ?_ ?_<;>intro _<;>try exact exo)|refine stq ?_|refine cp (Ie sd) ?_|fail)
 all_goals(conv=>whnf)
 all_goals first
  | exact aC.yes (by rename_i hc;exact Classical.byContradiction λhm=>by rw[if_neg hm] at hc;omega)
  | exact aC.no (by rename_i hc;intro hm;rw[if_pos hm] at hc;omega)
theorem A8 {x:Int}:Pu Tryz.prog 211 [i64 x] (boo false):=by
 refine pv Tryz.func211 ?_;repeat' ((conv=>whnf);first|exact kQ|(refine bk ?_ ?_<;>intro _<;>try exact exo)|refine stq ?_)
 all_goals(conv=>whnf)
 exact aC.same rfl rfl
theorem Less_c {x y:Int}:Pu Tryz.prog 243 [i64 x,i64 y] (boo (decide (x<y))):=by
 refine pv Tryz.func243 ?_;repeat' ((conv=>whnf);first|exact kQ|(refine bk ?_ ?_<;>intro _<;>try exact exo)|refine stq ?_|refine cp A8 ?_|fail)
 all_goals(conv=>whnf)
 all_goals first
  | exact aC.yes asm
  | exact aC.no asm
def swp (l:List Nat) (j:Nat):List Nat:=(l.set (j+1) (l.getD j 0)).set j (l.getD (j+1) 0)
def inn:List Nat->Nat->List Nat
 | l,0=>l
 | l,j+1=>if l.getD (j+1) 0<l.getD j 0 then inn (swp l j) j else l
def vG (l:List Nat):Nat->List Nat
 | 0=>l
 | i+1=>inn (vG l i) (i+1)
def srt (l:List Nat):List Nat:=vG l (l.length-1)
@[simp] theorem swp_len (l:List Nat) (j:Nat):(swp l j).length=l.length:=by simp[swp]
@[simp] theorem inn_len:∀ (j:Nat) (l:List Nat),(inn l j).length=l.length
 | 0,l=>rfl
 | j+1,l=>by
  unfold inn;split
  .rw[inn_len j,swp_len]
  .rfl
@[simp] theorem insr_len (l:List Nat):∀ i,(vG l i).length=l.length
 | 0=>rfl
 | i+1=>by simp[vG,insr_len l i]
abbrev cP (k:Nat):D:=i64 (k:Int)
theorem inss_c {l:List Nat}(hl:l.length<=12) (hn:l≠[]):AC1 Tryz.prog 237 [.sl 0 0 l.length l.length 1 false,i64 0,i64 l.length] ⟨1,[(0,.cells (l.map cP) false)]⟩ (.tup []) ⟨4,[(0,.cells ((srt l).map cP) false)]⟩:=by
 have h0:0<l.length:=List.length_pos_iff.2 hn;refine AC1.of_vl aB T0 Tryz.func237 rfl rfl ?_;repeat' ((conv=>whnf);first|exact kQ|(refine bk ?_ ?_<;>intro _<;>try exact exo)|refine stq ?_)
 refine aG.by aB T0 (λi:Nat=>⟨tmp 49 [(0,.sl 0 0 l.length l.length 1 false),(1,i64 0),(2,i64 l.length),(6,i64 ((i+1:Nat):Int))],⟨1,[(0,.cells ((vG l i).map cP) false)]⟩⟩)
  (λi=>i<l.length) (λi=>l.length-i) 0 h0 ?_ ?_
 .exact lq0
 intro i h1;by_cases h2:i+1<l.length
 .repeat' ((conv=>whnf);first|exact kQ|(refine bk ?_ ?_<;>intro _<;>try exact exo)|refine stq ?_|fail)
  refine aG.by2 aB T0 (λ(j:Nat) (cur:List Nat)=>⟨tmp 49 [(0,.sl 0 0 l.length l.length 1 false),(1,i64 0),(2,i64 l.length),(6,i64 ((i+1:Nat):Int)),(7,i64 (j:Int))],⟨1,[(0,.cells (cur.map cP) false)]⟩⟩)
   (λj cur=>j<l.length/\cur.length=l.length/\inn cur j=vG l (i+1)) (λj _=>j) (i+1) (vG l i) ⟨h2,si,rfl⟩ ?_ ?_
  .exact lq0
  intro j cur ⟨h3,h4,h5⟩;cases j with
  | zero=>
   repeat' ((conv=>whnf);first|exact kQ|(refine bk ?_ ?_<;>intro _<;>try exact exo)|refine stq ?_|refine ac.by (id:=4) aB T0 [0,0,3,7,15,15,63,127,15,15,527,1807,3855,8191,16383] (by kernel_rfl) ?_|fail)
   all_goals(conv=>whnf)
   refine⟨i+1,h2,om,?_⟩;exact lq0
  | succ j=>
   repeat' ((conv=>whnf);first|exact kQ|(refine bk ?_ ?_<;>intro _<;>try exact exo)|refine stq ?_|refine cd Less_c (λ_=>?_) (λ_=>?_)|refine ac.by (id:=4) aB T0 [0,0,3,7,15,15,63,127,15,15,527,1807,3855,8191,16383] (by kernel_rfl) ?_|refine ac.by (id:=6) aB T0 [0,0,0,0,8,0,0,64,224,480,0,0,3072,7168,16355,32739,65535,131071] (by kernel_rfl) ?_|refine b7.at (j+1) om om ?_|refine b7.at j om om ?_|refine Get.map om ?_|refine Put.one (by simp;omega) ?_|fail)
   all_goals(conv=>whnf)
   .have hlt:cur[j+1]<cur[j]:=om;have e1:cur.getD j 0=cur[j]:=aI om;have e2:cur.getD (j+1) 0=cur[j+1]:=aI om
    have e3:((cur.map cP).set (j+1) (cP cur[j])).set j (cP cur[j+1])=(swp cur j).map cP:=by
     rw[swp,e1,e2,List.map_set,List.map_set]
    refine⟨j,swp cur j,⟨om,by simp[h4],?_⟩,om,?_⟩
    .rw[<-h5];simp only[inn,e1,e2,hlt,if_true]
    exact lq0
   .have hlt:¬cur[j+1]<cur[j]:=om;have e1:cur.getD j 0=cur[j]:=aI om;have e2:cur.getD (j+1) 0=cur[j+1]:=aI om;have e3:cur=vG l (i+1):=by rw[<-h5];simp only[inn,e1,e2,hlt,if_false]
    refine⟨i+1,h2,om,?_⟩;exact lq0
 .repeat' ((conv=>whnf);first|exact kQ|(refine bk ?_ ?_<;>intro _<;>try exact exo)|refine stq ?_|fail)
  all_goals(conv=>whnf)
  have e:srt l=vG l i:=by rw[srt,show l.length-1=i from om]
  exact⟨Or.inl rfl,rfl,by rw[e]⟩
end
section
open Go Go.Am Classical
set_option maxRecDepth 100000
variable [GT]
theorem Bm {n:Nat}(hn:n<=12):Pu Tryz.prog 215 [.v (.int .u64 n)] (i64 (([0,1,2,2,3,3,3,3,4,4,4,4,4]:List Int).getD n 0)):=by
 rcases(by omega:n=0\/n=1\/n=2\/n=3\/n=4\/n=5\/n=6\/n=7\/n=8\/n=9\/n=10\/n=11\/n=12) with rfl|rfl|rfl|rfl|rfl|rfl|rfl|rfl|rfl|rfl|rfl|rfl|rfl
 all_goals
  refine pv Tryz.func215 ?_;repeat' ((conv=>whnf);first|refine AJ.mk (by decide) (by decide) ?_|exact kQ|(refine bk ?_ ?_<;>intro _<;>try exact exo)|refine stq ?_|(apply Cll.inl aB T0 Tryz.func247 rfl rfl ?_;rotate_left)|exact⟨Or.inr rfl,rfl,rfl⟩|refine Chk.mk (ot (by decide) (by decide)) ?_|fail)
  all_goals(conv=>whnf)
  exact aC.same rfl rfl
theorem Sort_c {l:List Nat}(hl:l.length<=12) (hn:l≠[]):AC1 Tryz.prog 185 [.sl 0 0 l.length l.length 1 false] ⟨1,[(0,.cells (l.map cP) false)]⟩ (.tup []) ⟨25,[(0,.cells ((srt l).map cP) false)]⟩:=by
 have hlen:Pu Tryz.prog 215 [.v (.int .u64 (IntKind.u64.wrap (l.length:Int)))] (i64 (([0,1,2,2,3,3,3,3,4,4,4,4,4]:List Int).getD l.length 0)):=by
  rw[show IntKind.u64.wrap (l.length:Int)=(l.length:Int) from by simp[IntKind.wrap,IntKind.bits,IntKind.signed];omega];exact Bm hl
 refine AC1.of_vl aB T0 Tryz.func185 rfl rfl ?_;repeat' ((conv=>whnf);first|exact kQ|(refine bk ?_ ?_<;>intro _<;>try exact exo)|refine stq ?_|refine cp hlen ?_|(apply Cll.inl aB T0 Tryz.func214 rfl rfl ?_;rotate_left)|exact⟨Or.inr rfl,rfl,rfl⟩|refine aG.times aB T0 1 ?_|refine Cll.emb (inss_c hl hn) [(0,0)] [] (.tup []) [(0,.cells ((srt l).map cP) false)] [] rfl cO bxA rdA bxA reA ?_|fail)
 all_goals(conv=>whnf)
 exact⟨Or.inl rfl,rfl,rfl⟩
end
section
open Go Go.Am Classical
set_option maxRecDepth 100000
theorem xC4.rdX {p:Prop}(h:p:=by first|exact Rd.same (fO _ _)|exact Rd.sl' rfl sim sim|exact Rd.sl' rfl (by first|omega|(simp;done)|(simp;omega)) (by first|omega|(simp;done)|(simp;omega))|exact Rd.own (l:=(o::os)++[i]) sim rfl rfl rfl|exact Rd.own (l:=(o::os)++[i]) sim rfl sim sim|fail):p:=h
theorem xC4.rbX {p:Prop}(h:p:=by first|exact Rb.cells (Rds.eqs (bJ om (λi _=>rfl)) (ai (λ_=>rfl))) rfl|exact Rb.cells (Rds.eqs hrev (aT (λ_=>rfl) _)) rfl|exact Rb.cells (Rds.same (ai (λ_=>rfl))) rfl|exact Rb.cells (Rds.eqs hs2 (ai (λ_=>rfl))) rfl|exact Rb.cells (Rds.eqs (aS (by intro _;rfl) (o::os) _) (aE (by intro _;rfl) _)) rfl|exact Rb.cells (Rds.eqs (aN _) (aT (λ_=>rfl) _)) rfl|exact Rb.cells (Rds.eqs sim (aT (λ_=>rfl) _)) rfl|exact Rb.cells (Rds.eqs (spl' (by first|omega|(simp;done)|(simp;omega))) (aT (λ_=>rfl) _)) rfl|exact Rb.cells (Rds.eqs (grw' rfl (by first|omega|(simp;done)|(simp;omega))) (aT (λ_=>rfl) _)) rfl|fail):p:=h
open xC4
variable [GT]
structure Nd where
 cls:List Int
 to:List Nat
abbrev ndC (n:Nd):List D:=[aD n.cls,dG n.to]
abbrev nds (l:List Nd):D:=lstS ndC l
theorem nt (l:List Nd):aK (nds l)=true:=fP (λx=>by simp[aF,aM,bz]) l
abbrev iP (l:List Nd) (b:Bool):D:=.iptr [nds l,boo b]
theorem fO (l:List Nd) (b:Bool):aK (iP l b)=true:=by simp[aK,aF,nt]
def clo (ns:List Nd):Nat->List Nat->List Nat->List Nat->Option (List Nat)
 | 0,_,_,_=>none
 | f+1,seen,st,out=>
  match st with
  | []=>if out.length<=12 then some (srt out) else none
  | i::st=>
   match ns[i]? with
   | none=>none
   | some n=>
    if seen.contains i then clo ns f seen st out
    else if i=0 then some [0]
    else if n.cls≠[] then clo ns f (i::seen) st (out++[i])
    else if st.length+n.to.length<=100000 then clo ns f (i::seen) (n.to.reverse++st) out
    else none
theorem ye:Pu Tryz.prog 185 [aJ] (.tup []):=by
 have hlen:Pu Tryz.prog 215 [.v (.int .u64 (IntKind.u64.wrap (0:Int)))] (i64 0):=Bm (n:=0) om;refine pv Tryz.func185 ?_;repeat' ((conv=>whnf);first|exact kQ|(refine bk ?_ ?_<;>intro _<;>try exact exo)|refine stq ?_|refine cp hlen ?_|(apply Cll.inl aB T0 Tryz.func214 rfl rfl ?_;rotate_left)|(apply Cll.inl aB T0 Tryz.func237 rfl rfl ?_;rotate_left)|exact⟨Or.inr rfl,rfl,rfl⟩|exact⟨Or.inl rfl,rfl,rfl⟩|refine aG.times aB T0 1 ?_|fail)
 all_goals(conv=>whnf)
 exact aC.same rfl rfl
theorem b8:∀ l:List Nat,ee (l.map λk:Nat=>i64 (k:Int))=true
 | []=>rfl
 | _::s=>b8 s
theorem spl (a b c:List Nat){m:Nat}(hm:m=a.length):splice ((a++b).map cP) m (c.map cP)=((a++c)++b.drop c.length).map cP:=by
 subst hm;simp[splice,List.drop_append]
theorem grw (a b c:List Nat){z m:Nat}(hz:z=0) (hm:m=a.length):(((a++b).map cP).drop z).take m++c.map cP=((a++c)++[]).map cP:=by
 subst hz;subst hm;simp
structure CSt where
 f:Nat
 seen:List Nat
 st:List Nat
 junk:List Nat
 out:List Nat
set_option maxHeartbeats 2000000 in
theorem tx {ns:List Nd}{b:Bool}{x:Nat}{xs r:List Nat}{F:Nat}(hF:F<=100000) (hl:ns.length<=100000) (hx:xs.length<100000) (h:clo ns F [] (x::xs).reverse []=some r) :
  Pu Tryz.prog 146 [iP ns b,dG (x::xs)] (dG r):=by
 have hx2:(x::xs).length=xs.length+1:=rfl;refine pv Tryz.func146 ?_;repeat' ((conv=>whnf);first|exact kQ|(refine bk ?_ ?_<;>intro _<;>try exact exo)|refine stq ?_|(apply Cll.inl aB T0 Tryz.func184 rfl rfl ?_;rotate_left)|exact⟨Or.inr rfl,rfl,rfl⟩|refine eD.lst ?_|refine Chk.mk (b8 _) ?_|refine Chk.growX 8 1 rfl rfl om om si ?_|fail)
 all_goals(conv=>whnf)
 refine aG.by aB T0 (λc:CSt=>⟨tmp 70 [(0,iP ns b),(5,.sl 0 0 ns.length ns.length 1 true),(6,aP 1 1 c.out),(7,.sl 2 0 c.st.length (c.st.length+c.junk.length) 1 false)],⟨3,(0,.cells (aX ns.length λi=>boo (c.seen.contains i)) true)::(2,.cells ((c.st.reverse++c.junk).map cP) false)::bK 1 (λk=>[cP k]) c.out⟩⟩)
  (λc=>clo ns c.f c.seen c.st c.out=some r/\c.out.length+c.f<=100000/\c.st.length<=100000) (λc=>c.f) ⟨F,[],(x::xs).reverse,[],[]⟩ ⟨h,by simp;omega,by simp;omega⟩ ?_ ?_
 .exact lq [(0,_),(2,_)] []
 intro⟨f,seen,st,junk,out⟩ ⟨h1,h2,h3⟩;dsimp only at h1 h2 h3 ⊢;cases f with
 | zero=>simp[clo] at h1
 | succ f=>
 cases st with
 | nil=>
  have hz:([]:List Nat).length=0:=rfl;simp only[clo] at h1;by_cases ho:out.length<=12
  .rw[if_pos ho] at h1;injection h1 with h1;subst h1
   cases out with
   | nil=>
    repeat' ((conv=>whnf);first|exact kQ|(refine bk ?_ ?_<;>intro _<;>try exact exo)|refine stq ?_|refine cp ye ?_|fail)
    all_goals(conv=>whnf)
    exact⟨.nil⟩
   | cons o os=>
    repeat' ((conv=>whnf);first|exact kQ|(refine bk ?_ ?_<;>intro _<;>try exact exo)|refine stq ?_|refine Cll.emb (Sort_c (l:=o::os) ho si) [(0,1)] [] (.tup []) [(1,.cells ((srt (o::os)).map cP) false)] [(0,.cells (aX ns.length λi=>boo (seen.contains i)) true),(2,.cells (([].reverse++junk).map cP) false)] rfl cO bxA rdA bxA reA ?_|fail)
    all_goals(conv=>whnf)
    exact aC.frz1 (l:=srt (o::os)) (f:=cP) rfl rfl (by simp[srt]) (λ_=>rfl) rfl
  .rw[if_neg ho] at h1;cases h1
 | cons i st=>
  simp only[clo] at h1;cases hi:ns[i]? with
  | none=>simp[hi] at h1
  | some n=>
  simp only[hi] at h1;obtain⟨hlt,hget⟩:=List.getElem?_eq_some_iff.1 hi;subst hget;have hst:(i::st).length=st.length+1:=rfl;have hrev:((i::st).reverse++junk).map cP=(st.reverse++i::junk).map cP:=by simp
  have hgt:(((i::st).reverse++junk).map cP)[st.length]?=some (cP i):=by rw[hrev];simp
  have hs2:(aX ns.length λk=>boo (seen.contains k)).set i (boo true)=aX ns.length λk=>boo ((i::seen).contains k):=bQ si (λk _ hk=>by simp[hk])
  cases hs:seen.contains i with
  | true=>
   rw[hs,if_pos rfl] at h1;cases out with
   | nil=>
    repeat' ((conv=>whnf);first|exact kQ|(refine bk ?_ ?_<;>intro _<;>try exact exo)|refine stq ?_|refine b7.at st.length om om ?_|refine b7.at i om om ?_|refine Get.one hgt ?_|refine Get.F (k:=i) (d:=boo true) hlt (by rw[hs]) ?_|refine Put.one (by simp;omega) ?_|refine Idx.atS (c:=ndC) (λ_=>rfl) i rfl hlt ?_|refine eD.lst ?_|refine Chk.mk (b8 _) ?_|refine Chk.growX 8 1 rfl rfl om om (by simp;omega) ?_|fail)
    all_goals(conv=>whnf)
    refine⟨⟨f,seen,st,i::junk,[]⟩,⟨h1,by dsimp only;omega,by dsimp only;omega⟩,by dsimp only;omega,?_⟩;exact lq [(0,_),(2,_)] []
   | cons o os=>
    repeat' ((conv=>whnf);first|exact kQ|(refine bk ?_ ?_<;>intro _<;>try exact exo)|refine stq ?_|refine b7.at st.length om om ?_|refine b7.at i om om ?_|refine Get.one hgt ?_|refine Get.F (k:=i) (d:=boo true) hlt (by rw[hs]) ?_|refine Put.one (by simp;omega) ?_|refine Idx.atS (c:=ndC) (λ_=>rfl) i rfl hlt ?_|refine eD.lst ?_|refine Chk.mk (b8 _) ?_|refine Chk.growX 8 1 rfl rfl om om (by simp;omega) ?_|fail)
    all_goals(conv=>whnf)
    refine⟨⟨f,seen,st,i::junk,o::os⟩,⟨h1,by dsimp only;omega,by dsimp only;omega⟩,by dsimp only;omega,?_⟩;exact lq [(0,_),(1,_),(2,_)] []
  | false=>
   rw[hs,if_neg si] at h1
   have spl':∀ {m:Nat},m=st.length->splice (((i::st).reverse++junk).map cP) m (ns[i].to.map cP)=((ns[i].to.reverse++st).reverse++(i::junk).drop ns[i].to.length).map cP:=λhm=>by
    rw[hrev,spl _ _ _ (by simp;exact hm)];simp
   have grw':∀ {z m:Nat},z=0->m=st.length->((((i::st).reverse++junk).map cP).drop z).take m++ns[i].to.map cP=((ns[i].to.reverse++st).reverse++[]).map cP:=λhz hm=>by
    rw[hrev,grw _ _ _ hz (by simp;exact hm)];simp
   by_cases h0:i=0
   .rw[if_pos h0] at h1;injection h1 with h1;subst h1
    cases out with
    | nil=>
     repeat' ((conv=>whnf);first|exact kQ|(refine bk ?_ ?_<;>intro _<;>try exact exo)|refine stq ?_|refine b7.at st.length om om ?_|refine b7.at i om om ?_|refine Get.one hgt ?_|refine Get.F (k:=i) (d:=boo false) hlt (by rw[hs]) ?_|refine Put.one (by simp;omega) ?_|refine Idx.atS (c:=ndC) (λ_=>rfl) i rfl hlt ?_|refine eD.lst ?_|refine Chk.mk (b8 _) ?_|refine Chk.mk (by rw[List.length_map,kG,List.length_reverse];simp only[Int.toNat_zero];omega) ?_|refine Chk.mk ⟨(show _*8<=1099511627776 from om),(show _<=1099511627776 from om),(by rw[List.length_map,kG,List.length_reverse];simp only[Int.toNat_zero];omega)⟩ ?_|fail)
     all_goals(conv=>whnf)
     exact aC.frz1 (l:=[0]) (f:=cP) rfl rfl rfl (λ_=>rfl) rfl
    | cons o os=>
     repeat' ((conv=>whnf);first|exact kQ|(refine bk ?_ ?_<;>intro _<;>try exact exo)|refine stq ?_|refine b7.at st.length om om ?_|refine b7.at i om om ?_|refine Get.one hgt ?_|refine Get.F (k:=i) (d:=boo false) hlt (by rw[hs]) ?_|refine Put.one (by simp;omega) ?_|refine Idx.atS (c:=ndC) (λ_=>rfl) i rfl hlt ?_|refine eD.lst ?_|refine Chk.mk (b8 _) ?_|refine Chk.mk (by rw[List.length_map,kG,List.length_reverse];simp only[Int.toNat_zero];omega) ?_|refine Chk.mk ⟨(show _*8<=1099511627776 from om),(show _<=1099511627776 from om),(by rw[List.length_map,kG,List.length_reverse];simp only[Int.toNat_zero];omega)⟩ ?_|fail)
     all_goals(conv=>whnf)
     exact aC.frz1 (l:=[0]) (f:=cP) rfl rfl rfl (λ_=>rfl) rfl
   .rw[if_neg h0] at h1;by_cases hc:ns[i].cls=[]
    .rw[if_neg (by simp[hc])] at h1;have hc2:ns[i].cls.length=0:=by rw[hc];rfl
     by_cases hg:st.length+ns[i].to.length<=100000
     .rw[if_pos hg] at h1;cases out with
      | nil=>
       repeat' ((conv=>whnf);first|exact kQ|(refine bk ?_ ?_<;>intro _<;>try exact exo)|refine stq ?_|refine b7.at st.length om om ?_|refine b7.at i om om ?_|refine Get.one hgt ?_|refine Get.F (k:=i) (d:=boo false) hlt (by rw[hs]) ?_|refine Put.one (by simp;omega) ?_|refine Idx.atS (c:=ndC) (λ_=>rfl) i rfl hlt ?_|refine eD.lst ?_|refine Chk.mk (b8 _) ?_|refine Chk.mk (by rw[List.length_map,kG,List.length_reverse];simp only[Int.toNat_zero];omega) ?_|refine Chk.mk ⟨(show _*8<=1099511627776 from om),(show _<=1099511627776 from om),(by rw[List.length_map,kG,List.length_reverse];simp only[Int.toNat_zero];omega)⟩ ?_|fail)
       all_goals(conv=>whnf)
       .refine⟨⟨f,i::seen,ns[i].to.reverse++st,(i::junk).drop ns[i].to.length,[]⟩,⟨h1,by dsimp only;omega,by simp;omega⟩,by dsimp only;omega,?_⟩;exact lq [(0,_),(2,_)] []
       .refine⟨⟨f,i::seen,ns[i].to.reverse++st,[],[]⟩,⟨h1,by dsimp only;omega,by simp;omega⟩,by dsimp only;omega,?_⟩;exact lq [(0,_),(2,_)] []
      | cons o os=>
       repeat' ((conv=>whnf);first|exact kQ|(refine bk ?_ ?_<;>intro _<;>try exact exo)|refine stq ?_|refine b7.at st.length om om ?_|refine b7.at i om om ?_|refine Get.one hgt ?_|refine Get.F (k:=i) (d:=boo false) hlt (by rw[hs]) ?_|refine Put.one (by simp;omega) ?_|refine Idx.atS (c:=ndC) (λ_=>rfl) i rfl hlt ?_|refine eD.lst ?_|refine Chk.mk (b8 _) ?_|refine Chk.mk (by rw[List.length_map,kG,List.length_reverse];simp only[Int.toNat_zero];omega) ?_|refine Chk.mk ⟨(show _*8<=1099511627776 from om),(show _<=1099511627776 from om),(by rw[List.length_map,kG,List.length_reverse];simp only[Int.toNat_zero];omega)⟩ ?_|fail)
       all_goals(conv=>whnf)
       .refine⟨⟨f,i::seen,ns[i].to.reverse++st,(i::junk).drop ns[i].to.length,o::os⟩,⟨h1,by dsimp only;omega,by simp;omega⟩,by dsimp only;omega,?_⟩;exact lq [(0,_),(1,_),(2,_)] []
       .refine⟨⟨f,i::seen,ns[i].to.reverse++st,[],o::os⟩,⟨h1,by dsimp only;omega,by simp;omega⟩,by dsimp only;omega,?_⟩;exact lq [(0,_),(1,_),(2,_)] []
     .rw[if_neg hg] at h1;cases h1
    .rw[if_pos hc] at h1;have hc2:0<ns[i].cls.length:=List.length_pos_iff.2 hc;cases out with
     | nil=>
      repeat' ((conv=>whnf);first|exact kQ|(refine bk ?_ ?_<;>intro _<;>try exact exo)|refine stq ?_|refine b7.at st.length om om ?_|refine b7.at i om om ?_|refine Get.one hgt ?_|refine Get.F (k:=i) (d:=boo false) hlt (by rw[hs]) ?_|refine Put.one (by simp;omega) ?_|refine Idx.atS (c:=ndC) (λ_=>rfl) i rfl hlt ?_|refine eD.lst ?_|refine Chk.mk (b8 _) ?_|refine Chk.mk (by rw[List.length_map,kG,List.length_reverse];simp only[Int.toNat_zero];omega) ?_|refine Chk.mk ⟨(show _*8<=1099511627776 from om),(show _<=1099511627776 from om),(by rw[List.length_map,kG,List.length_reverse];simp only[Int.toNat_zero];omega)⟩ ?_|fail)
      all_goals(conv=>whnf)
      refine⟨⟨f,i::seen,st,i::junk,[i]⟩,⟨h1,by dsimp only at h2 ⊢;simp at h2 ⊢;omega,by dsimp only;omega⟩,by dsimp only;omega,?_⟩;exact lq [(0,_),(1,_),(2,_)] []
     | cons o os=>
      have ho:(o::os).length=os.length+1:=rfl;repeat' ((conv=>whnf);first|exact kQ|(refine bk ?_ ?_<;>intro _<;>try exact exo)|refine stq ?_|refine b7.at st.length om om ?_|refine b7.at i om om ?_|refine Get.one hgt ?_|refine Get.F (k:=i) (d:=boo false) hlt (by rw[hs]) ?_|refine Put.one (by simp;omega) ?_|refine Idx.atS (c:=ndC) (λ_=>rfl) i rfl hlt ?_|refine eD.lst ?_|refine Chk.mk (b8 _) ?_|refine Chk.mk (by rw[List.length_map,kG,List.length_reverse];simp only[Int.toNat_zero];omega) ?_|refine Chk.mk ⟨(show _*8<=1099511627776 from om),(show _<=1099511627776 from om),(by rw[List.length_map,kG,List.length_reverse];simp only[Int.toNat_zero];omega)⟩ ?_|fail)
      all_goals(conv=>whnf)
      refine⟨⟨f,i::seen,st,i::junk,(o::os)++[i]⟩,⟨h1,by dsimp only at h2 ⊢;simp at h2 ⊢;omega,by dsimp only;omega⟩,by dsimp only;omega,?_⟩;exact lq [(0,_),(1,_),(2,_)] []
end
section
open Go Go.Am Classical
set_option maxRecDepth 100000
theorem xC5.rdX {p:Prop}(h:p:=by first|exact Rd.same (fO _ _)|exact Rd.sl' rfl om om|exact Rd.sl' rfl (by first|(rw[<-hy];done)|fail) (by first|(rw[<-hy];done)|fail)|exact Rd.sl' rfl sim sim|exact Rd.own (l:=(x::xs)++ns[set[k]].to) sim rfl sim sim|fail):p:=h
theorem xC5.rbX {p:Prop}(h:p:=by first|exact Rb.cells (Rds.eqs (gro (x::xs) ns[set[k]].to rfl (Nat.mul_one _)) (aE (by intro _;rfl) _)) rfl|exact Rb.cells (Rds.eqs (by first|(rw[hy,aN];done)|fail) (aE (by intro _;rfl) _)) rfl|exact Rb.cells (Rds.eqs (by first|(rw[hy];simp[splice];done)|fail) (aE (by intro _;rfl) _)) rfl|fail):p:=h
open xC5
variable [GT]
theorem yG {ns:List Nd}{b:Bool}(hl:ns.length<=100000):Pu Tryz.prog 146 [iP ns b,aJ] (dG []):=by
 refine pv Tryz.func146 ?_;repeat' ((conv=>whnf);first|exact kQ|(refine bk ?_ ?_<;>intro _<;>try exact exo)|refine stq ?_|refine cp ye ?_|(apply Cll.inl aB T0 Tryz.func184 rfl rfl ?_;rotate_left)|exact⟨Or.inr rfl,rfl,rfl⟩|refine aG.times aB T0 1 ?_|fail)
 all_goals(conv=>whnf)
 exact⟨.nil⟩
def gat (ns:List Nd) (c:Int):List Nat->List Nat
 | []=>[]
 | i::l=>(match ns[i]? with|some n=>if c∈n.cls then n.to else []|none=>[])++gat ns c l
theorem mI {ns:List Nd}{c:Int}:∀ l m,gat ns c (l++m)=gat ns c l++gat ns c m
 | [],_=>rfl
 | i::l,m=>by simp[gat,mI l m]
def stp (ns:List Nd) (F:Nat) (set:List Nat) (c:Int):Option (List Nat):=
 if set=[0] then some [0] else
 match gat ns c set with
 | []=>some []
 | x::xs=>clo ns F [] (x::xs).reverse []
theorem CT (l:List Nat):dG l=aD (l.map λk:Nat=>(k:Int)):=by simp[lst]
theorem BH {l:List Nat}(hl:l.length<=1000000):Pu Tryz.prog 143 [dG l] (boo (decide (l=[0]))):=by
 rw[CT];have h:=IC (l:=l.map λk:Nat=>(k:Int)) (by simpa using hl)
 rwa [show decide (l=[0])=decide ((l.map λk:Nat=>(k:Int))=[0]) from by
  congr 1;apply propext
  match l with
  | []=>simp
  | [x]=>simp
  | x::y::l=>simp]
theorem rD {ns:List Nd}{c:Int}{l:List Nat}{k:Nat}(h:k<l.length) (hk:l[k]<ns.length):gat ns c (l.take (k+1))=gat ns c (l.take k)++(if c∈ns[l[k]].cls then ns[l[k]].to else []):=by
 rw[bE h,mI];simp[gat,List.getElem?_eq_getElem hk]
theorem BB {ns:List Nd}{c:Int}{l:List Nat}(k:Nat):(gat ns c (l.take k)).length<=(gat ns c l).length:=by
 conv=>rhs;rw[<-List.take_append_drop k l,mI]
 simp
theorem gro (a c:List Nat){z m:Nat}(hz:z=0) (hm:m=a.length):((a.flatMap λk=>[cP k]).drop z).take m++(c.map λk:Nat=>i64 (k:Int))=(a++c).flatMap λk=>[cP k]:=by
 subst hz;subst hm;rw[List.drop_zero,kE (by rw[aN];simp),List.flatMap_append,aN c]
theorem Dr {ns:List Nd}{b:Bool}{set r:List Nat}{c:Int}{F:Nat}(hF:F<=100000) (hl:ns.length<=100000) (hset:∀ i (h:i<set.length),set[i]<ns.length) (hn:set.length<=100000) (hcl:∀ i (h:i<ns.length),ns[i].cls.length<=1000000)
  (hg:(gat ns c set).length<=100000) (h:stp ns F set c=some r):Pu Tryz.prog 144 [iP ns b,dG set,i64 c] (dG r):=by
 refine pv Tryz.func144 ?_;unfold stp at h;repeat' ((conv=>whnf);first|exact kQ|(refine bk ?_ ?_<;>intro _<;>try exact exo)|refine stq ?_|refine cd (BH sd) (λ_=>?_) (λ_=>?_)|fail)
 all_goals(conv=>whnf)
 .rename_i he;rw[if_pos he] at h;injection h with h;subst h
  subst he;exact aC.same (bz _) rfl
 rename_i he;rw[if_neg he] at h
 refine aG.by2 aB T0 (λ(k:Nat) (o:List Nat)=>⟨tmp 43 [(0,iP ns b),(2,i64 c),(7,aP 0 1 o),(13,dG set),(14,i64 set.length),(15,i64 (k:Int))],⟨1,bK 0 (λk=>[cP k]) o⟩⟩)
  (λk o=>k<=set.length/\o=gat ns c (set.take k)) (λk _=>set.length-k) 0 [] ⟨om,rfl⟩ ?_ ?_
 .exact lq0
 intro k o ⟨h3,h4⟩;have ho:=BB (ns:=ns) (c:=c) (l:=set) k;rw[<-h4] at ho;by_cases hk:k<set.length
 .have h5:=hset k hk;have h6:=hcl _ h5;have h7:=BB (ns:=ns) (c:=c) (l:=set) (k+1);rw[rD hk h5,<-h4] at h7;by_cases hm:c∈ns[set[k]].cls
  .have h8:o.length+ns[set[k]].to.length<=100000:=by rw[if_pos hm] at h7;simp at h7;omega
   have e1:gat ns c (set.take (k+1))=o++ns[set[k]].to:=by rw[rD hk h5,<-h4,if_pos hm]
   cases o with
   | nil=>
    repeat' ((conv=>whnf);first|exact kQ|(refine bk ?_ ?_<;>intro _<;>try exact exo)|refine stq ?_|refine cd (jg sd) (λ_=>?_) (λ_=>?_)|refine Idx.atS (c:=ndC) (λ_=>rfl) set[k] rfl h5 ?_|refine eD.lst ?_|refine Chk.mk (b8 _) ?_|refine Chk.growX 8 1 rfl rfl om om (by rw[aN];simp) ?_|refine Chk.mk (by rw[aN,List.length_map];omega) ?_|fail)
    all_goals(conv=>whnf)
    .refine⟨k+1,[],⟨om,by rw[e1,show ns[set[k]].to=[] from List.eq_nil_of_length_eq_zero asm];rfl⟩,om,?_⟩;exact lq0
    .obtain⟨y,ys,hy⟩:=kI (show 0<ns[set[k]].to.length by omega);refine⟨k+1,y::ys,⟨om,by rw[e1,hy];rfl⟩,om,?_⟩;exact lq [(0,_)] []
    .contradiction
   | cons x xs=>
    have hx2:(x::xs).length=xs.length+1:=rfl;repeat' ((conv=>whnf);first|exact kQ|(refine bk ?_ ?_<;>intro _<;>try exact exo)|refine stq ?_|refine cd (jg sd) (λ_=>?_) (λ_=>?_)|refine Idx.atS (c:=ndC) (λ_=>rfl) set[k] rfl h5 ?_|refine eD.lst ?_|refine Chk.mk (b8 _) ?_|refine Chk.growX 8 1 rfl rfl om om (by rw[aN];simp) ?_|refine Chk.mk (by rw[aN,List.length_map];omega) ?_|fail)
    all_goals(conv=>whnf)
    .have hy:ns[set[k]].to=[]:=List.eq_nil_of_length_eq_zero om;have hy2:ns[set[k]].to.length=0:=by rw[hy];rfl
     refine⟨k+1,x::xs,⟨om,by rw[e1,hy];simp⟩,om,?_⟩;exact lq [(0,_)] []
    .refine⟨k+1,(x::xs)++ns[set[k]].to,⟨om,by rw[e1]⟩,om,?_⟩;exact lq [(0,_)] []
    .contradiction
  .have e1:gat ns c (set.take (k+1))=o:=by rw[rD hk h5,<-h4,if_neg hm];simp
   cases o with
   | nil=>
    repeat' ((conv=>whnf);first|exact kQ|(refine bk ?_ ?_<;>intro _<;>try exact exo)|refine stq ?_|refine cd (jg sd) (λ_=>?_) (λ_=>?_)|refine Idx.atS (c:=ndC) (λ_=>rfl) set[k] rfl h5 ?_|refine eD.lst ?_|refine Chk.mk (b8 _) ?_|refine Chk.growX 8 1 rfl rfl om om (by rw[aN];simp) ?_|refine Chk.mk (by rw[aN,List.length_map];omega) ?_|fail)
    all_goals(conv=>whnf)
    .contradiction
    .contradiction
    .refine⟨k+1,[],⟨om,e1.symm⟩,om,?_⟩;exact lq0
   | cons x xs=>
    have hx2:(x::xs).length=xs.length+1:=rfl;repeat' ((conv=>whnf);first|exact kQ|(refine bk ?_ ?_<;>intro _<;>try exact exo)|refine stq ?_|refine cd (jg sd) (λ_=>?_) (λ_=>?_)|refine Idx.atS (c:=ndC) (λ_=>rfl) set[k] rfl h5 ?_|refine eD.lst ?_|refine Chk.mk (b8 _) ?_|refine Chk.growX 8 1 rfl rfl om om (by rw[aN];simp) ?_|refine Chk.mk (by rw[aN,List.length_map];omega) ?_|fail)
    all_goals(conv=>whnf)
    all_goals first
     | contradiction
     | (refine⟨k+1,x::xs,⟨om,e1.symm⟩,om,?_⟩
        exact lq [(0,_)] [])
 .have h9:gat ns c set=o:=by rw[h4,kE om]
  rw[h9] at h;cases o with
  | nil=>
   injection h with h;subst h
   repeat' ((conv=>whnf);first|exact kQ|(refine bk ?_ ?_<;>intro _<;>try exact exo)|refine stq ?_|refine cp (yG sd) ?_|fail)
   all_goals(conv=>whnf)
   exact aC.same (bz _) rfl
  | cons x xs=>
   have hx2:(x::xs).length=xs.length+1:=rfl;repeat' ((conv=>whnf);first|exact kQ|(refine bk ?_ ?_<;>intro _<;>try exact exo)|refine stq ?_|refine Cll.give (.cons (.same (fO _ _)) (.cons (.frz rfl rfl (by rw[aN,List.length_map];omega) (.eqs (by rw[List.drop_zero,kE (by rw[aN];simp),aN]) (aT (λ_=>rfl) _))) .nil)) (tx hF hl om h) ?_|fail)
   all_goals(conv=>whnf)
   exact aC.same (bz _) rfl
end
section
open Go Go.Am Classical
set_option maxRecDepth 100000
variable [GT]
theorem rI:∀ {a b:List Bool},jr a=jr b->a=b
 | [],[],_=>rfl
 | [],_::_,h=>by simp[jr] at h
 | _::_,[],h=>by simp[jr] at h
 | x::a,y::b,h=>by
  simp only[jr,List.map_cons,List.cons.injEq] at h;rw[rI (a:=a) (b:=b) h.2];have:=h.1
  cases x<;>cases y<;>simp_all
abbrev kd (ss:List (List Bool)):List Str:=ss.map jr
abbrev nT (s:List Bool):List D:=[az s]
abbrev auB (ss:List (List Bool)):List (Nat×Box):=(0,.cells [.map 1] true)::(1,.map (pos (kd ss) 0))::(2,.cells [aP 3 1 ss] true)::bK 3 nT ss
theorem zX {ss:List (List Bool)}{s:List Bool}(hl:s.length<=1000000) (hs:s∈ss) :
  AC1 Tryz.prog 147 [az s,.ptr 0 0,.ptr 2 0] ⟨4,auB ss⟩ (i64 ((kd ss).idxOf (jr s):Int)) ⟨20,auB ss⟩:=by
 have hk:jr s∈kd ss:=List.mem_map_of_mem hs;refine AC1.of_vl aB T0 Tryz.func147 rfl rfl ?_;cases ss with
 | nil=>simp at hs
 | cons t ts=>
  repeat' ((conv=>whnf);first|exact kQ|(refine bk ?_ ?_<;>intro _<;>try exact exo)|refine stq ?_|refine cp (oB sd) ?_|(refine fT.pos (λ_ _=>?_) (λ_=>?_)<;>(try contradiction))|fail)
  all_goals(conv=>whnf)
  exact⟨Or.inr rfl,rfl,rfl⟩
abbrev auR (ss:List (List Bool)) (s:List Bool):List (Nat×Box):=(28,.cells ((ss++[s]).flatMap nT) false)::(27,.cells [az s] true)::(0,.cells [.map 1] true)::(1,.map (pos (kd (ss++[s])) 0))::(2,.cells [.sl 28 0 (ss++[s]).length (ss++[s]).length 1 false] true)::[]
theorem F8 (ss:List (List Bool)) (s:List Bool):auR ss s=[(28,.cells (((ss.flatMap nT).drop 0).take (ss.length*1)++nT s) false),(27,.cells [az s] true),(0,.cells [.map 1] true),(1,.map (pos (kd ss) 0++[(D.str (jr s),i64 (ss.length:Int))])),(2,.cells [.sl 28 0 (ss.length+1) (ss.length+1) 1 false] true)]:=by
 unfold auR;rw[aS (c:=nT) (sz:=1) (λ_=>rfl),kd,List.map_append,l8];simp[pos]
theorem tH {ss:List (List Bool)}{s:List Bool}(hl:s.length<=1000000) (hs:¬s∈ss) (hn:ss.length<=1000000) :
  AC1 Tryz.prog 147 [az s,.ptr 0 0,.ptr 2 0] ⟨4,auB ss⟩ (i64 (ss.length:Int)) ⟨32,auR ss s⟩:=by
 have hk:¬jr s∈kd ss:=λh=>by
  obtain⟨x,h1,h2⟩:=List.mem_map.1 h;exact hs (rI h2▸h1)
 refine AC1.of_vl aB T0 Tryz.func147 rfl rfl ?_;cases ss with
 | nil=>
  repeat' ((conv=>whnf);first|exact kQ|(refine bk ?_ ?_<;>intro _<;>try exact exo)|refine stq ?_|refine cp (oB sd) ?_|(refine fT.pos (λ_ _=>?_) (λ_=>?_)<;>(try contradiction))|fail)
  all_goals(conv=>whnf)
  exact⟨Or.inr rfl,rfl,by rw[F8];rfl⟩
 | cons t ts=>
  have ht:(t::ts).length=ts.length+1:=rfl;repeat' ((conv=>whnf);first|exact kQ|(refine bk ?_ ?_<;>intro _<;>try exact exo)|refine stq ?_|refine cp (oB sd) ?_|(refine fT.pos (λ_ _=>?_) (λ_=>?_)<;>(try contradiction))|fail)
  all_goals(conv=>whnf)
  exact⟨Or.inr rfl,rfl,by rw[F8];rfl⟩
end
end Go.Proofs.YtpgcjpcenaefpaaGreatDoor
