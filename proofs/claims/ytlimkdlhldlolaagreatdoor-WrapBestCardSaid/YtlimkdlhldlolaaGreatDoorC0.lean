/-
  Contracts of functions over data: keys of sets.
-/
import Derived.Test.YtlimkdlhldlolaaGreatDoorChecked
import Derived.Test.YtlimkdlhldlolaaGreatDoorAmF
import Derived.Lib.Bytealg
set_option linter.unusedSectionVars false
namespace Go.Proofs.YtlimkdlhldlolaaGreatDoor
open Go Go.Am Classical
set_option maxRecDepth 100000
section
theorem xC0.rbX {p:Prop}(h:p:=by first|exact Rb.cells (Rds.eqs e2 (ab (λ_=>rfl))) rfl|exact Rb.cells (Rds.eqs (a8 om (λi _=>by first|(simp;done)|fail)) (ab (λ_=>rfl))) rfl|exact Rb.cells (Rds.eqs (bG (by first|(simp[hb,hk];done)|fail) (λi _ hi=>by first|(simp only[show(i<k+1)=(i<k) from propext ⟨λh=>om,λh=>om⟩];done)|fail)) (ab (λ_=>rfl))) rfl|fail):p:=h
open xC0
variable [GT]
theorem aB:Tryz.prog.follows .mixedOrders=true:=by kernel_rfl
instance:Mx Tryz.prog:=⟨aB⟩
abbrev T0:TOk Tryz.prog (ci Tryz.prog):=ue _
theorem Ii {l:List Int}(hl:l.length<=1000000):Pu Tryz.prog 148 [aC l] (boo (decide (l=[0]))):=by
 refine pv Tryz.func148 ?_;repeat' ((conv=>whnf);first|exact kQ|(refine bk ?_ ?_<;>intro _<;>try exact exo)|refine stq ?_)
 all_goals(conv=>whnf)
 all_goals first
  | exact aD.yes (by match l with|[x]=>simp_all)
  | exact aD.no (by rintro rfl;simp_all)
def jv (l:List Bool):Str:=l.map λb=>if b then 1 else 0
theorem oK {l:List Bool}(hl:l.length<=1000000):Pu Tryz.prog 153 [ap l] (.str (jv l)):=by
 refine pv Tryz.func153 ?_;repeat' ((conv=>whnf);first|exact kQ|(refine bk ?_ ?_<;>intro _<;>try exact exo)|refine stq ?_)
 refine aG.by aB T0 (λk:Nat=>⟨tmp 23 [(3,.sl 0 0 l.length l.length 1 true),(9,ap l),(10,i64 l.length),(11,i64 (k:Int))],⟨1,[(0,.cells (aT l.length λi=>.v (.int .u8 (if i<k/\l.getD i false then 1 else 0))) true)]⟩⟩)
  (λk=>k<=l.length) (λk=>l.length-k) 0 om ?_ ?_
 .exact lq [(0,_)] []
 intro k h3;by_cases hk:k<l.length
 .have eg:l.getD k false=l[k]:=aH hk;cases hb:l[k] with
  | true=>
   repeat' ((conv=>whnf);first|refine Idx.atE (d:=boo true) k rfl hk (by rw[hb]) ?_|exact kQ|(refine bk ?_ ?_<;>intro _<;>try exact exo)|refine stq ?_|refine Put.one (by simp;omega) ?_|fail)
   (conv=>whnf)
   refine⟨k+1,om,om,?_⟩;exact lq [(0,_)] []
  | false=>
   repeat' ((conv=>whnf);first|refine Idx.atE (d:=boo false) k rfl hk (by rw[hb]) ?_|exact kQ|(refine bk ?_ ?_<;>intro _<;>try exact exo)|refine stq ?_|fail)
   (conv=>whnf)
   have e2:(aT l.length λi=>D.v (.int .u8 (if i<k/\l.getD i false then 1 else 0)))=aT l.length λi=>D.v (.int .u8 (if i<k+1/\l.getD i false then 1 else 0)):=bo λi _=>by
    by_cases hi:i=k
    .subst hi;rw[eg,hb];simp
    .simp only[show(i<k+1)=(i<k) from propext ⟨λh=>om,λh=>om⟩]
   refine⟨k+1,om,om,?_⟩;exact lq [(0,_)] []
 .have hfin:(aT l.length λi=>D.v (.int .u8 (if i<k/\l.getD i false then 1 else 0)))=(jv l).map byt:=by
   rw[jv,List.map_map];refine ct λi hi=>?_
   rw[aH hi];cases l[i]<;>simp[show i<k by omega]
  repeat' ((conv=>whnf);first|exact kQ|(refine bk ?_ ?_<;>intro _<;>try exact exo)|refine stq ?_|refine Cvs.all (l:=jv l) hfin (by simp[jv]) ?_|fail)
  (conv=>whnf)
  exact aD.same rfl rfl
end
section
theorem xC1.rdX {p:Prop}(h:p:=by first|exact Rd.sl' rfl sim sim|fail):p:=h
theorem xC1.rbX {p:Prop}(h:p:=by first|exact Rb.cells (Rds.eqs (py (x0::xs0) [32] rfl (by first|(simp only[mY,aN];done)|fail)) (aE (by intro _;rfl) _)) rfl|exact Rb.cells (Rds.eqs ((py ((x::xs)++(x0::xs0)) [32] sim (py (x::xs) (x0::xs0) rfl rfl)).trans (by first|(rw[e2];done)|fail)) (aE (by intro _;rfl) _)) rfl|fail):p:=h
open xC1
variable [GT]
def dig (k:Nat):Str:=if k<10 then [UInt8.ofNat (48+k)] else [UInt8.ofNat (48+k / 10),UInt8.ofNat (48+k % 10)]
theorem HN {k:Nat}(hk:k<100):Pu Tryz.prog 249 [i64 k] (.str (dig k)):=by
 refine pv Tryz.func249 ?_;have ew:IntKind.i64.wrap ((k:Int)*2)=(k:Int)*2:=by simp[IntKind.wrap,IntKind.bits,IntKind.signed];omega
 repeat' ((conv=>whnf);first|exact kQ|(refine bk ?_ ?_<;>intro _<;>try exact exo)|refine stq ?_|refine Chk.mk ⟨om,om,show(_:Int)<=((36:Nat):Int) from om⟩ ?_|refine Chk.mk (by rw[ew];exact ko om om) ?_|refine Chk.mk (by rw[ew];exact⟨om,om,show(_:Int)<=((200:Nat):Int) from om⟩) ?_|fail)
 all_goals(conv=>whnf)
 all_goals
  refine aD.same rfl (congrArg D.str ?_);rename_i hk';clear ew;revert k;decide
def ee:List Nat->Str
 | []=>[]
 | k::l=>dig k++[32]++ee l
theorem ob:∀ l m,ee (l++m)=ee l++ee m
 | [],_=>rfl
 | k::l,m=>by simp[ee,ob l m]
abbrev dI (l:List Nat):D:=lst (λk:Nat=>i64 (k:Int)) l
theorem b9 (l:List Nat):aK (dI l)=true:=gI (λ_=>rfl) l
theorem Ij (k:Nat):(dig k).length<=2:=by unfold dig;split<;>simp
theorem tC {l:List Nat}{k:Nat}(h:k<l.length):ee (l.take (k+1))=ee (l.take k)++(dig l[k]++[32]):=by
 rw[bI h,ob];simp[ee]
theorem ER {l:List Nat}:∀ k,(ee (l.take k)).length<=3*l.length:=λk=>by
 have h:∀ m:List Nat,(ee m).length<=3*m.length:=by
  intro m;induction m with
  | nil=>simp[ee]
  | cons a m ih=>have:=Ij a;simp[ee];omega
 have:=h (l.take k);simp at this;omega
abbrev bytC (b:UInt8):List D:=[byt b]
theorem qh:∀ s:Str,ep (mY s)=true
 | []=>rfl
 | _::s=>qh s
theorem py (s r:Str){n:Nat}{cs:List D}(hn:n=s.length) (e:cs=s.flatMap bytC):(cs.drop 0).take (n*1)++mY r=(s++r).flatMap bytC:=by
 subst e;subst hn;rw[List.drop_zero,kE (by simp[aN]),List.flatMap_append];simp only[mY,aN]
theorem fg {l:List Nat}(hl:l.length<=1000000) (hs:∀ i (h:i<l.length),l[i]<100):Pu Tryz.prog 147 [dI l] (.str (ee l)):=by
 refine pv Tryz.func147 ?_;repeat' ((conv=>whnf);first|exact kQ|(refine bk ?_ ?_<;>intro _<;>try exact exo)|refine stq ?_)
 refine aG.by2 aB T0 (λ(k:Nat) (o:Str)=>⟨tmp 21 [(3,aP 0 1 o),(6,dI l),(7,i64 l.length),(8,i64 (k:Int))],⟨1,bS 0 bytC o⟩⟩)
  (λk o=>k<=l.length/\o=ee (l.take k)) (λk _=>l.length-k) 0 [] ⟨om,rfl⟩ ?_ ?_
 .exact lq0
 intro k o ⟨h3,h4⟩;by_cases hk:k<l.length
 .have h5:=hs k hk;have ew1:IntKind.u64.wrap ((l[k]:Nat):Int)=((l[k]:Nat):Int):=by simp[IntKind.wrap,IntKind.bits,IntKind.signed];omega
  have ew2:IntKind.i64.wrap (IntKind.u64.wrap ((l[k]:Nat):Int))=((l[k]:Nat):Int):=by rw[ew1];simp[IntKind.wrap,IntKind.bits,IntKind.signed];omega
  obtain⟨x0,xs0,hd,hx⟩:∃ x0 xs0,dig l[k]=x0::xs0/\xs0.length<=1:=by
   unfold dig;split
   .exact⟨_,_,rfl,si⟩
   .exact⟨_,_,rfl,si⟩
  have hx2:(x0::xs0).length=xs0.length+1:=rfl;have hsm:Pu Tryz.prog 249 [i64 (IntKind.i64.wrap (IntKind.u64.wrap ((l[k]:Nat):Int)))] (.str (x0::xs0)):=by rw[ew2,<-hd];exact HN h5
  cases o with
  | nil=>
   repeat' ((conv=>whnf);first|exact kQ|(refine bk ?_ ?_<;>intro _<;>try exact exo)|refine stq ?_|(apply Cll.inl aB T0 Tryz.func182 rfl rfl ?_;rotate_left)|(apply Cll.inl aB T0 Tryz.func205 rfl rfl ?_;rotate_left)|(apply Cll.inl aB T0 Tryz.func226 rfl rfl ?_;rotate_left)|exact⟨Or.inr rfl,rfl,rfl⟩|refine cp hsm ?_|refine Chk.growX 1 1 rfl rfl om om (by simp[mY]) ?_|fail)
   (conv=>whnf)
   refine⟨k+1,x0::(xs0++[32]),⟨om,by rw[tC hk,<-h4,hd];simp⟩,om,?_⟩;exact lq [(0,_)] []
  | cons x xs=>
   have hx3:(x::xs).length<=3*l.length:=by rw[h4];exact ER k
   repeat' ((conv=>whnf);first|exact kQ|(refine bk ?_ ?_<;>intro _<;>try exact exo)|refine stq ?_|(apply Cll.inl aB T0 Tryz.func182 rfl rfl ?_;rotate_left)|(apply Cll.inl aB T0 Tryz.func205 rfl rfl ?_;rotate_left)|(apply Cll.inl aB T0 Tryz.func226 rfl rfl ?_;rotate_left)|exact⟨Or.inr rfl,rfl,rfl⟩|refine cp hsm ?_|refine Chk.mk (qh _) ?_|refine Chk.growX 1 1 rfl rfl om om (by rw[py (x::xs) (x0::xs0) rfl rfl,aN];simp;omega) ?_|fail)
   (conv=>whnf)
   refine⟨k+1,x::(xs++(x0::(xs0++[32]))),⟨om,by rw[tC hk,<-h4,hd];simp⟩,om,?_⟩;have e2:((x::xs)++(x0::xs0))++[32]=x::(xs++(x0::(xs0++[32]))):=by simp
   exact lq [(0,_)] []
 .have hfin:ee l=o:=by rw[h4,kE om]
  rw[hfin];cases o with
  | nil=>
   repeat' ((conv=>whnf);first|exact kQ|(refine bk ?_ ?_<;>intro _<;>try exact exo)|refine stq ?_|fail)
   (conv=>whnf)
   exact aD.same rfl rfl
  | cons x xs=>
   repeat' ((conv=>whnf);first|exact kQ|(refine bk ?_ ?_<;>intro _<;>try exact exo)|refine stq ?_|refine Cvs.all (l:=x::xs) (aN _) rfl ?_|fail)
   (conv=>whnf)
   exact aD.same rfl rfl
end
section
theorem xC2.rbX {p:Prop}(h:p:=by first|exact Rb.cells (Rds.eqs e3 (aU (λ_=>rfl) _)) rfl|exact Rb.cells (Rds.eqs (by first|(rw[<-h5];rfl;done)|fail) (aU (λ_=>rfl) _)) rfl|exact Rb.cells (Rds.eqs (by first|(rw[<-e3];done)|fail) (aU (λ_=>rfl) _)) rfl|fail):p:=h
open xC2
variable [GT]
theorem JC {l:List Int}{x:Int}(hl:l.length<=1000000):Pu Tryz.prog 206 [aC l,i64 x] (i64 (if x∈l then l.idxOf x else -1)):=by
 refine pv Tryz.func206 ?_;repeat' ((conv=>whnf);first|exact kQ|(refine bk ?_ ?_<;>intro _<;>try exact exo)|refine stq ?_)
 refine aG.by aB T0 (λk:Nat=>⟨tmp 19 [(0,aC l),(1,i64 x),(7,i64 l.length),(8,i64 (k:Int))],⟨0,[]⟩⟩)
  (λk=>k<=l.length/\¬x∈l.take k) (λk=>l.length-k) 0 ⟨om,si⟩ ?_ ?_
 .exact lq0
 intro k ⟨h3,h4⟩;repeat' ((conv=>whnf);first|exact kQ|(refine bk ?_ ?_<;>intro _<;>try exact exo)|refine stq ?_)
 all_goals(conv=>whnf)
 all_goals first
  | (refine aD.int ?_
     have hk:k<l.length:=om;have e:x=l[k]:=by assumption
     rw[if_pos (by rw[e];exact kM hk)]
     have h1:l.idxOf x<=k:=Nat.le_of_not_lt λhlt=>by
      have:=List.not_of_lt_findIdx hlt
      simp[e] at this
     have h2:¬l.idxOf x<k:=λhlt=>h4 (by rw[List.mem_take_iff_getElem];exact⟨l.idxOf x,om,si⟩)
     congr 1
     omega)
  | exact aD.int (by rw[kE om] at h4;rw[if_neg h4])
  | (refine⟨k+1,⟨om,by rw[bI om];simp only[List.mem_append,List.mem_singleton,not_or];exact⟨h4,asm⟩⟩,om,?_⟩
     exact lq0)
theorem ji {l:List Int}{x:Int}(hl:l.length<=1000000):Pu Tryz.prog 183 [aC l,i64 x] (boo (decide (x∈l))):=by
 refine pv Tryz.func183 ?_;repeat' ((conv=>whnf);first|exact kQ|(refine bk ?_ ?_<;>intro _<;>try exact exo)|refine stq ?_|refine cp (JC sd) ?_|fail)
 all_goals(conv=>whnf)
 all_goals first
  | exact aD.yes (by rename_i hc;exact Classical.byContradiction λhm=>by rw[if_neg hm] at hc;omega)
  | exact aD.no (by rename_i hc;intro hm;rw[if_pos hm] at hc;omega)
theorem BN {x:Int}:Pu Tryz.prog 204 [i64 x] (boo false):=by
 refine pv Tryz.func204 ?_;repeat' ((conv=>whnf);first|exact kQ|(refine bk ?_ ?_<;>intro _<;>try exact exo)|refine stq ?_)
 (conv=>whnf)
 exact aD.same rfl rfl
theorem Less_c {x y:Int}:Pu Tryz.prog 233 [i64 x,i64 y] (boo (decide (x<y))):=by
 refine pv Tryz.func233 ?_;repeat' ((conv=>whnf);first|exact kQ|(refine bk ?_ ?_<;>intro _<;>try exact exo)|refine stq ?_|refine cp BN ?_|fail)
 all_goals(conv=>whnf)
 all_goals first
  | exact aD.yes asm
  | exact aD.no asm
def swp (l:List Nat) (j:Nat):List Nat:=(l.set (j+1) (l.getD j 0)).set j (l.getD (j+1) 0)
def inn:List Nat->Nat->List Nat
 | l,0=>l
 | l,j+1=>if l.getD (j+1) 0<l.getD j 0 then inn (swp l j) j else l
def vO (l:List Nat):Nat->List Nat
 | 0=>l
 | i+1=>inn (vO l i) (i+1)
def srt (l:List Nat):List Nat:=vO l (l.length-1)
@[simp] theorem swp_len (l:List Nat) (j:Nat):(swp l j).length=l.length:=by simp[swp]
@[simp] theorem inn_len:∀ (j:Nat) (l:List Nat),(inn l j).length=l.length
 | 0,l=>rfl
 | j+1,l=>by
  unfold inn;split
  .rw[inn_len j,swp_len]
  .rfl
@[simp] theorem insr_len (l:List Nat):∀ i,(vO l i).length=l.length
 | 0=>rfl
 | i+1=>by simp[vO,insr_len l i]
abbrev cR (k:Nat):D:=i64 (k:Int)
theorem inss_c {l:List Nat}(hl:l.length<=12) (hn:l≠[]):AC1 Tryz.prog 227 [.sl 0 0 l.length l.length 1 false,i64 0,i64 l.length] ⟨1,[(0,.cells (l.map cR) false)]⟩ (.tup []) ⟨4,[(0,.cells ((srt l).map cR) false)]⟩:=by
 have h0:0<l.length:=List.length_pos_iff.2 hn;refine AC1.of_vl aB T0 Tryz.func227 rfl rfl ?_;repeat' ((conv=>whnf);first|exact kQ|(refine bk ?_ ?_<;>intro _<;>try exact exo)|refine stq ?_)
 refine aG.by aB T0 (λi:Nat=>⟨tmp 49 [(0,.sl 0 0 l.length l.length 1 false),(1,i64 0),(2,i64 l.length),(6,i64 ((i+1:Nat):Int))],⟨1,[(0,.cells ((vO l i).map cR) false)]⟩⟩)
  (λi=>i<l.length) (λi=>l.length-i) 0 h0 ?_ ?_
 .exact lq0
 intro i h1;by_cases h2:i+1<l.length
 .repeat' ((conv=>whnf);first|exact kQ|(refine bk ?_ ?_<;>intro _<;>try exact exo)|refine stq ?_|fail)
  refine aG.by2 aB T0 (λ(j:Nat) (cur:List Nat)=>⟨tmp 49 [(0,.sl 0 0 l.length l.length 1 false),(1,i64 0),(2,i64 l.length),(6,i64 ((i+1:Nat):Int)),(7,i64 (j:Int))],⟨1,[(0,.cells (cur.map cR) false)]⟩⟩)
   (λj cur=>j<l.length/\cur.length=l.length/\inn cur j=vO l (i+1)) (λj _=>j) (i+1) (vO l i) ⟨h2,si,rfl⟩ ?_ ?_
  .exact lq0
  intro j cur ⟨h3,h4,h5⟩;cases j with
  | zero=>
   repeat' ((conv=>whnf);first|exact kQ|(refine bk ?_ ?_<;>intro _<;>try exact exo)|refine stq ?_|refine ac.by (id:=4) aB T0 [0,0,3,7,15,15,63,127,15,15,527,1807,3855,8191,16383] (by kernel_rfl) ?_|fail)
   (conv=>whnf)
   refine⟨i+1,h2,om,?_⟩;exact lq0
  | succ j=>
   repeat' ((conv=>whnf);first|exact kQ|(refine bk ?_ ?_<;>intro _<;>try exact exo)|refine stq ?_|refine cd Less_c (λ_=>?_) (λ_=>?_)|refine ac.by (id:=4) aB T0 [0,0,3,7,15,15,63,127,15,15,527,1807,3855,8191,16383] (by kernel_rfl) ?_|refine ac.by (id:=6) aB T0 [0,0,0,0,8,0,0,64,224,480,0,0,3072,7168,16355,32739,65535,131071] (by kernel_rfl) ?_|refine bT.at (j+1) om om ?_|refine bT.at j om om ?_|refine Get.map om ?_|refine Put.one (by simp;omega) ?_|fail)
   all_goals(conv=>whnf)
   .have hlt:cur[j+1]<cur[j]:=om;have e1:cur.getD j 0=cur[j]:=aH om;have e2:cur.getD (j+1) 0=cur[j+1]:=aH om
    have e3:((cur.map cR).set (j+1) (cR cur[j])).set j (cR cur[j+1])=(swp cur j).map cR:=by
     rw[swp,e1,e2,List.map_set,List.map_set]
    refine⟨j,swp cur j,⟨om,by simp[h4],?_⟩,om,?_⟩
    .rw[<-h5];simp only[inn,e1,e2,hlt,if_true]
    exact lq0
   .have hlt:¬cur[j+1]<cur[j]:=om;have e1:cur.getD j 0=cur[j]:=aH om;have e2:cur.getD (j+1) 0=cur[j+1]:=aH om;have e3:cur=vO l (i+1):=by rw[<-h5];simp only[inn,e1,e2,hlt,if_false]
    refine⟨i+1,h2,om,?_⟩;exact lq0
 .repeat' ((conv=>whnf);first|exact kQ|(refine bk ?_ ?_<;>intro _<;>try exact exo)|refine stq ?_|fail)
  (conv=>whnf)
  have e:srt l=vO l i:=by rw[srt,show l.length-1=i from om]
  exact⟨Or.inl rfl,rfl,by rw[e]⟩
end
section
variable [GT]
theorem B3 {n:Nat}(hn:n<=12):Pu Tryz.prog 208 [.v (.int .u64 n)] (i64 (([0,1,2,2,3,3,3,3,4,4,4,4,4]:List Int).getD n 0)):=by
 rcases(by omega:n=0\/n=1\/n=2\/n=3\/n=4\/n=5\/n=6\/n=7\/n=8\/n=9\/n=10\/n=11\/n=12) with rfl|rfl|rfl|rfl|rfl|rfl|rfl|rfl|rfl|rfl|rfl|rfl|rfl
 all_goals
  refine pv Tryz.func208 ?_;repeat' ((conv=>whnf);first|refine Aa.mk (by decide) (by decide) ?_|exact kQ|(refine bk ?_ ?_<;>intro _<;>try exact exo)|refine stq ?_|(apply Cll.inl aB T0 Tryz.func237 rfl rfl ?_;rotate_left)|exact⟨Or.inr rfl,rfl,rfl⟩|refine Chk.mk (ko (by decide) (by decide)) ?_|fail)
  (conv=>whnf)
  exact aD.same rfl rfl
theorem Sort_c {l:List Nat}(hl:l.length<=12) (hn:l≠[]):AC1 Tryz.prog 186 [.sl 0 0 l.length l.length 1 false] ⟨1,[(0,.cells (l.map cR) false)]⟩ (.tup []) ⟨25,[(0,.cells ((srt l).map cR) false)]⟩:=by
 have hlen:Pu Tryz.prog 208 [.v (.int .u64 (IntKind.u64.wrap (l.length:Int)))] (i64 (([0,1,2,2,3,3,3,3,4,4,4,4,4]:List Int).getD l.length 0)):=by
  rw[show IntKind.u64.wrap (l.length:Int)=(l.length:Int) from by simp[IntKind.wrap,IntKind.bits,IntKind.signed];omega];exact B3 hl
 refine AC1.of_vl aB T0 Tryz.func186 rfl rfl ?_;repeat' ((conv=>whnf);first|exact kQ|(refine bk ?_ ?_<;>intro _<;>try exact exo)|refine stq ?_|refine cp hlen ?_|(apply Cll.inl aB T0 Tryz.func207 rfl rfl ?_;rotate_left)|exact⟨Or.inr rfl,rfl,rfl⟩|refine aG.times aB T0 1 ?_|refine Cll.emb (inss_c hl hn) [(0,0)] [] (.tup []) [(0,.cells ((srt l).map cR) false)] [] rfl cO bxA rdA bxA reA ?_|fail)
 (conv=>whnf)
 exact⟨Or.inl rfl,rfl,rfl⟩
end
section
theorem xC4.rdX {p:Prop}(h:p:=by first|exact Rd.same (fR _ _)|exact Rd.sl' rfl sim sim|exact Rd.sl' rfl (by first|omega|(simp;done)|(simp;omega)) (by first|omega|(simp;done)|(simp;omega))|exact Rd.own (l:=(o::os)++[i]) sim rfl rfl rfl|exact Rd.own (l:=(o::os)++[i]) sim rfl sim sim|fail):p:=h
theorem xC4.rbX {p:Prop}(h:p:=by first|exact Rb.cells (Rds.eqs (a8 om (λi _=>rfl)) (ab (λ_=>rfl))) rfl|exact Rb.cells (Rds.eqs hrev (aU (λ_=>rfl) _)) rfl|exact Rb.cells (Rds.same (ab (λ_=>rfl))) rfl|exact Rb.cells (Rds.eqs hs2 (ab (λ_=>rfl))) rfl|exact Rb.cells (Rds.eqs (aQ (by intro _;rfl) (o::os) _) (aE (by intro _;rfl) _)) rfl|exact Rb.cells (Rds.eqs (aN _) (aU (λ_=>rfl) _)) rfl|exact Rb.cells (Rds.eqs sim (aU (λ_=>rfl) _)) rfl|exact Rb.cells (Rds.eqs (spl' (by first|omega|(simp;done)|(simp;omega))) (aU (λ_=>rfl) _)) rfl|exact Rb.cells (Rds.eqs (grw' rfl (by first|omega|(simp;done)|(simp;omega))) (aU (λ_=>rfl) _)) rfl|fail):p:=h
open xC4
variable [GT]
structure Nd where
 cls:List Int
 to:List Nat
abbrev ndC (n:Nd):List D:=[aC n.cls,dI n.to]
abbrev nds (l:List Nd):D:=lstS ndC l
theorem oB (l:List Nd):aK (nds l)=true:=fS (λx=>by simp[aF,aM,b9]) l
abbrev iP (l:List Nd) (b:Bool):D:=.iptr [nds l,boo b]
theorem fR (l:List Nd) (b:Bool):aK (iP l b)=true:=by simp[aK,aF,oB]
def clo (ns:List Nd):Nat->List Nat->List Nat->List Nat->Option (List Nat)
 | 0,_,_,_=>none
 | f+1,seen,st,out=>
  match st with
  | []=>if out.length<=12 then some (srt out) else none
  | i::st=>
   match ns[i]? with
   | none=>none
   | some n=>
    if seen.contains i then clo ns f seen st out
    else if i=0 then some [0]
    else if n.cls≠[] then clo ns f (i::seen) st (out++[i])
    else if st.length+n.to.length<=100000 then clo ns f (i::seen) (n.to.reverse++st) out
    else none
theorem yw:Pu Tryz.prog 186 [aJ] (.tup []):=by
 have hlen:Pu Tryz.prog 208 [.v (.int .u64 (IntKind.u64.wrap (0:Int)))] (i64 0):=B3 (n:=0) om;refine pv Tryz.func186 ?_;repeat' ((conv=>whnf);first|exact kQ|(refine bk ?_ ?_<;>intro _<;>try exact exo)|refine stq ?_|refine cp hlen ?_|(apply Cll.inl aB T0 Tryz.func207 rfl rfl ?_;rotate_left)|(apply Cll.inl aB T0 Tryz.func227 rfl rfl ?_;rotate_left)|exact⟨Or.inr rfl,rfl,rfl⟩|exact⟨Or.inl rfl,rfl,rfl⟩|refine aG.times aB T0 1 ?_|fail)
 (conv=>whnf)
 exact aD.same rfl rfl
theorem cE:∀ l:List Nat,ep (l.map λk:Nat=>i64 (k:Int))=true
 | []=>rfl
 | _::s=>cE s
theorem spl (a b c:List Nat){m:Nat}(hm:m=a.length):splice ((a++b).map cR) m (c.map cR)=((a++c)++b.drop c.length).map cR:=by
 subst hm;simp[splice,List.drop_append]
theorem grw (a b c:List Nat){z m:Nat}(hz:z=0) (hm:m=a.length):(((a++b).map cR).drop z).take m++c.map cR=((a++c)++[]).map cR:=by
 subst hz;subst hm;simp
structure CSt where
 f:Nat
 seen:List Nat
 st:List Nat
 junk:List Nat
 out:List Nat
set_option maxHeartbeats 2000000 in
theorem uD {ns:List Nd}{b:Bool}{x:Nat}{xs r:List Nat}{F:Nat}(hF:F<=100000) (hl:ns.length<=100000) (hx:xs.length<100000) (h:clo ns F [] (x::xs).reverse []=some r) :
  Pu Tryz.prog 151 [iP ns b,dI (x::xs)] (dI r):=by
 have hx2:(x::xs).length=xs.length+1:=rfl;refine pv Tryz.func151 ?_;repeat' ((conv=>whnf);first|exact kQ|(refine bk ?_ ?_<;>intro _<;>try exact exo)|refine stq ?_|(apply Cll.inl aB T0 Tryz.func185 rfl rfl ?_;rotate_left)|exact⟨Or.inr rfl,rfl,rfl⟩|refine eI.lst ?_|refine Chk.mk (cE _) ?_|refine Chk.growX 8 1 rfl rfl om om si ?_|fail)
 (conv=>whnf)
 refine aG.by aB T0 (λc:CSt=>⟨tmp 70 [(0,iP ns b),(5,.sl 0 0 ns.length ns.length 1 true),(6,aP 1 1 c.out),(7,.sl 2 0 c.st.length (c.st.length+c.junk.length) 1 false)],⟨3,(0,.cells (aT ns.length λi=>boo (c.seen.contains i)) true)::(2,.cells ((c.st.reverse++c.junk).map cR) false)::bS 1 (λk=>[cR k]) c.out⟩⟩)
  (λc=>clo ns c.f c.seen c.st c.out=some r/\c.out.length+c.f<=100000/\c.st.length<=100000) (λc=>c.f) ⟨F,[],(x::xs).reverse,[],[]⟩ ⟨h,by simp;omega,by simp;omega⟩ ?_ ?_
 .exact lq [(0,_),(2,_)] []
 intro⟨f,seen,st,junk,out⟩ ⟨h1,h2,h3⟩;dsimp only at h1 h2 h3 ⊢;cases f with
 | zero=>simp[clo] at h1
 | succ f=>
 cases st with
 | nil=>
  have hz:([]:List Nat).length=0:=rfl;simp only[clo] at h1;by_cases ho:out.length<=12
  .rw[if_pos ho] at h1;injection h1 with h1;subst h1
   cases out with
   | nil=>
    repeat' ((conv=>whnf);first|exact kQ|(refine bk ?_ ?_<;>intro _<;>try exact exo)|refine stq ?_|refine cp yw ?_|fail)
    (conv=>whnf)
    exact⟨.nil⟩
   | cons o os=>
    repeat' ((conv=>whnf);first|exact kQ|(refine bk ?_ ?_<;>intro _<;>try exact exo)|refine stq ?_|refine Cll.emb (Sort_c (l:=o::os) ho si) [(0,1)] [] (.tup []) [(1,.cells ((srt (o::os)).map cR) false)] [(0,.cells (aT ns.length λi=>boo (seen.contains i)) true),(2,.cells (([].reverse++junk).map cR) false)] rfl cO bxA rdA bxA reA ?_|fail)
    (conv=>whnf)
    exact aD.frz1 (l:=srt (o::os)) (f:=cR) rfl rfl (by simp[srt]) (λ_=>rfl) rfl
  .rw[if_neg ho] at h1;cases h1
 | cons i st=>
  simp only[clo] at h1;cases hi:ns[i]? with
  | none=>simp[hi] at h1
  | some n=>
  simp only[hi] at h1;obtain⟨hlt,hget⟩:=List.getElem?_eq_some_iff.1 hi;subst hget;have hst:(i::st).length=st.length+1:=rfl;have hrev:((i::st).reverse++junk).map cR=(st.reverse++i::junk).map cR:=by simp
  have hgt:(((i::st).reverse++junk).map cR)[st.length]?=some (cR i):=by rw[hrev];simp
  have hs2:(aT ns.length λk=>boo (seen.contains k)).set i (boo true)=aT ns.length λk=>boo ((i::seen).contains k):=bG si (λk _ hk=>by simp[hk])
  cases hs:seen.contains i with
  | true=>
   rw[hs,if_pos rfl] at h1;cases out with
   | nil=>
    repeat' ((conv=>whnf);first|exact kQ|(refine bk ?_ ?_<;>intro _<;>try exact exo)|refine stq ?_|refine bT.at st.length om om ?_|refine bT.at i om om ?_|refine Get.one hgt ?_|refine Get.F (k:=i) (d:=boo true) hlt (by rw[hs]) ?_|refine Put.one (by simp;omega) ?_|refine Idx.atS (c:=ndC) (λ_=>rfl) i rfl hlt ?_|refine eI.lst ?_|refine Chk.mk (cE _) ?_|refine Chk.growX 8 1 rfl rfl om om (by simp;omega) ?_|fail)
    (conv=>whnf)
    refine⟨⟨f,seen,st,i::junk,[]⟩,⟨h1,by dsimp only;omega,by dsimp only;omega⟩,by dsimp only;omega,?_⟩;exact lq [(0,_),(2,_)] []
   | cons o os=>
    repeat' ((conv=>whnf);first|exact kQ|(refine bk ?_ ?_<;>intro _<;>try exact exo)|refine stq ?_|refine bT.at st.length om om ?_|refine bT.at i om om ?_|refine Get.one hgt ?_|refine Get.F (k:=i) (d:=boo true) hlt (by rw[hs]) ?_|refine Put.one (by simp;omega) ?_|refine Idx.atS (c:=ndC) (λ_=>rfl) i rfl hlt ?_|refine eI.lst ?_|refine Chk.mk (cE _) ?_|refine Chk.growX 8 1 rfl rfl om om (by simp;omega) ?_|fail)
    (conv=>whnf)
    refine⟨⟨f,seen,st,i::junk,o::os⟩,⟨h1,by dsimp only;omega,by dsimp only;omega⟩,by dsimp only;omega,?_⟩;exact lq [(0,_),(1,_),(2,_)] []
  | false=>
   rw[hs,if_neg si] at h1
   have spl':∀ {m:Nat},m=st.length->splice (((i::st).reverse++junk).map cR) m (ns[i].to.map cR)=((ns[i].to.reverse++st).reverse++(i::junk).drop ns[i].to.length).map cR:=λhm=>by
    rw[hrev,spl _ _ _ (by simp;exact hm)];simp
   have grw':∀ {z m:Nat},z=0->m=st.length->((((i::st).reverse++junk).map cR).drop z).take m++ns[i].to.map cR=((ns[i].to.reverse++st).reverse++[]).map cR:=λhz hm=>by
    rw[hrev,grw _ _ _ hz (by simp;exact hm)];simp
   by_cases h0:i=0
   .rw[if_pos h0] at h1;injection h1 with h1;subst h1
    cases out with
    | nil=>
     repeat' ((conv=>whnf);first|exact kQ|(refine bk ?_ ?_<;>intro _<;>try exact exo)|refine stq ?_|refine bT.at st.length om om ?_|refine bT.at i om om ?_|refine Get.one hgt ?_|refine Get.F (k:=i) (d:=boo false) hlt (by rw[hs]) ?_|refine Put.one (by simp;omega) ?_|refine Idx.atS (c:=ndC) (λ_=>rfl) i rfl hlt ?_|refine eI.lst ?_|refine Chk.mk (cE _) ?_|refine Chk.mk (by rw[List.length_map,kG,List.length_reverse];simp only[Int.toNat_zero];omega) ?_|refine Chk.mk ⟨(show _*8<=1099511627776 from om),(show _<=1099511627776 from om),(by rw[List.length_map,kG,List.length_reverse];simp only[Int.toNat_zero];omega)⟩ ?_|fail)
     (conv=>whnf)
     exact aD.frz1 (l:=[0]) (f:=cR) rfl rfl rfl (λ_=>rfl) rfl
    | cons o os=>
     repeat' ((conv=>whnf);first|exact kQ|(refine bk ?_ ?_<;>intro _<;>try exact exo)|refine stq ?_|refine bT.at st.length om om ?_|refine bT.at i om om ?_|refine Get.one hgt ?_|refine Get.F (k:=i) (d:=boo false) hlt (by rw[hs]) ?_|refine Put.one (by simp;omega) ?_|refine Idx.atS (c:=ndC) (λ_=>rfl) i rfl hlt ?_|refine eI.lst ?_|refine Chk.mk (cE _) ?_|refine Chk.mk (by rw[List.length_map,kG,List.length_reverse];simp only[Int.toNat_zero];omega) ?_|refine Chk.mk ⟨(show _*8<=1099511627776 from om),(show _<=1099511627776 from om),(by rw[List.length_map,kG,List.length_reverse];simp only[Int.toNat_zero];omega)⟩ ?_|fail)
     (conv=>whnf)
     exact aD.frz1 (l:=[0]) (f:=cR) rfl rfl rfl (λ_=>rfl) rfl
   .rw[if_neg h0] at h1;by_cases hc:ns[i].cls=[]
    .rw[if_neg (by simp[hc])] at h1;have hc2:ns[i].cls.length=0:=by rw[hc];rfl
     by_cases hg:st.length+ns[i].to.length<=100000
     .rw[if_pos hg] at h1;cases out with
      | nil=>
       repeat' ((conv=>whnf);first|exact kQ|(refine bk ?_ ?_<;>intro _<;>try exact exo)|refine stq ?_|refine bT.at st.length om om ?_|refine bT.at i om om ?_|refine Get.one hgt ?_|refine Get.F (k:=i) (d:=boo false) hlt (by rw[hs]) ?_|refine Put.one (by simp;omega) ?_|refine Idx.atS (c:=ndC) (λ_=>rfl) i rfl hlt ?_|refine eI.lst ?_|refine Chk.mk (cE _) ?_|refine Chk.mk (by rw[List.length_map,kG,List.length_reverse];simp only[Int.toNat_zero];omega) ?_|refine Chk.mk ⟨(show _*8<=1099511627776 from om),(show _<=1099511627776 from om),(by rw[List.length_map,kG,List.length_reverse];simp only[Int.toNat_zero];omega)⟩ ?_|fail)
       all_goals(conv=>whnf)
       .refine⟨⟨f,i::seen,ns[i].to.reverse++st,(i::junk).drop ns[i].to.length,[]⟩,⟨h1,by dsimp only;omega,by simp;omega⟩,by dsimp only;omega,?_⟩;exact lq [(0,_),(2,_)] []
       .refine⟨⟨f,i::seen,ns[i].to.reverse++st,[],[]⟩,⟨h1,by dsimp only;omega,by simp;omega⟩,by dsimp only;omega,?_⟩;exact lq [(0,_),(2,_)] []
      | cons o os=>
       repeat' ((conv=>whnf);first|exact kQ|(refine bk ?_ ?_<;>intro _<;>try exact exo)|refine stq ?_|refine bT.at st.length om om ?_|refine bT.at i om om ?_|refine Get.one hgt ?_|refine Get.F (k:=i) (d:=boo false) hlt (by rw[hs]) ?_|refine Put.one (by simp;omega) ?_|refine Idx.atS (c:=ndC) (λ_=>rfl) i rfl hlt ?_|refine eI.lst ?_|refine Chk.mk (cE _) ?_|refine Chk.mk (by rw[List.length_map,kG,List.length_reverse];simp only[Int.toNat_zero];omega) ?_|refine Chk.mk ⟨(show _*8<=1099511627776 from om),(show _<=1099511627776 from om),(by rw[List.length_map,kG,List.length_reverse];simp only[Int.toNat_zero];omega)⟩ ?_|fail)
       all_goals(conv=>whnf)
       .refine⟨⟨f,i::seen,ns[i].to.reverse++st,(i::junk).drop ns[i].to.length,o::os⟩,⟨h1,by dsimp only;omega,by simp;omega⟩,by dsimp only;omega,?_⟩;exact lq [(0,_),(1,_),(2,_)] []
       .refine⟨⟨f,i::seen,ns[i].to.reverse++st,[],o::os⟩,⟨h1,by dsimp only;omega,by simp;omega⟩,by dsimp only;omega,?_⟩;exact lq [(0,_),(1,_),(2,_)] []
     .rw[if_neg hg] at h1;cases h1
    .rw[if_pos hc] at h1;have hc2:0<ns[i].cls.length:=List.length_pos_iff.2 hc;cases out with
     | nil=>
      repeat' ((conv=>whnf);first|exact kQ|(refine bk ?_ ?_<;>intro _<;>try exact exo)|refine stq ?_|refine bT.at st.length om om ?_|refine bT.at i om om ?_|refine Get.one hgt ?_|refine Get.F (k:=i) (d:=boo false) hlt (by rw[hs]) ?_|refine Put.one (by simp;omega) ?_|refine Idx.atS (c:=ndC) (λ_=>rfl) i rfl hlt ?_|refine eI.lst ?_|refine Chk.mk (cE _) ?_|refine Chk.mk (by rw[List.length_map,kG,List.length_reverse];simp only[Int.toNat_zero];omega) ?_|refine Chk.mk ⟨(show _*8<=1099511627776 from om),(show _<=1099511627776 from om),(by rw[List.length_map,kG,List.length_reverse];simp only[Int.toNat_zero];omega)⟩ ?_|fail)
      (conv=>whnf)
      refine⟨⟨f,i::seen,st,i::junk,[i]⟩,⟨h1,by dsimp only at h2 ⊢;simp at h2 ⊢;omega,by dsimp only;omega⟩,by dsimp only;omega,?_⟩;exact lq [(0,_),(1,_),(2,_)] []
     | cons o os=>
      have ho:(o::os).length=os.length+1:=rfl;repeat' ((conv=>whnf);first|exact kQ|(refine bk ?_ ?_<;>intro _<;>try exact exo)|refine stq ?_|refine bT.at st.length om om ?_|refine bT.at i om om ?_|refine Get.one hgt ?_|refine Get.F (k:=i) (d:=boo false) hlt (by rw[hs]) ?_|refine Put.one (by simp;omega) ?_|refine Idx.atS (c:=ndC) (λ_=>rfl) i rfl hlt ?_|refine eI.lst ?_|refine Chk.mk (cE _) ?_|refine Chk.mk (by rw[List.length_map,kG,List.length_reverse];simp only[Int.toNat_zero];omega) ?_|refine Chk.mk ⟨(show _*8<=1099511627776 from om),(show _<=1099511627776 from om),(by rw[List.length_map,kG,List.length_reverse];simp only[Int.toNat_zero];omega)⟩ ?_|fail)
      (conv=>whnf)
      refine⟨⟨f,i::seen,st,i::junk,(o::os)++[i]⟩,⟨h1,by dsimp only at h2 ⊢;simp at h2 ⊢;omega,by dsimp only;omega⟩,by dsimp only;omega,?_⟩;exact lq [(0,_),(1,_),(2,_)] []
end
section
theorem xC5.rdX {p:Prop}(h:p:=by first|exact Rd.same (fR _ _)|exact Rd.sl' rfl om om|exact Rd.sl' rfl (by first|(rw[<-hy];done)|fail) (by first|(rw[<-hy];done)|fail)|exact Rd.sl' rfl sim sim|exact Rd.own (l:=(x::xs)++ns[set[k]].to) sim rfl sim sim|fail):p:=h
theorem xC5.rbX {p:Prop}(h:p:=by first|exact Rb.cells (Rds.eqs (gro (x::xs) ns[set[k]].to rfl (Nat.mul_one _)) (aE (by intro _;rfl) _)) rfl|exact Rb.cells (Rds.eqs (by first|(rw[hy,aN];done)|fail) (aE (by intro _;rfl) _)) rfl|exact Rb.cells (Rds.eqs (by first|(rw[hy];simp[splice];done)|fail) (aE (by intro _;rfl) _)) rfl|fail):p:=h
open xC5
variable [GT]
theorem yV {ns:List Nd}{b:Bool}(hl:ns.length<=100000):Pu Tryz.prog 151 [iP ns b,aJ] (dI []):=by
 refine pv Tryz.func151 ?_;repeat' ((conv=>whnf);first|exact kQ|(refine bk ?_ ?_<;>intro _<;>try exact exo)|refine stq ?_|refine cp yw ?_|(apply Cll.inl aB T0 Tryz.func185 rfl rfl ?_;rotate_left)|exact⟨Or.inr rfl,rfl,rfl⟩|refine aG.times aB T0 1 ?_|fail)
 (conv=>whnf)
 exact⟨.nil⟩
def gat (ns:List Nd) (c:Int):List Nat->List Nat
 | []=>[]
 | i::l=>(match ns[i]? with|some n=>if c∈n.cls then n.to else []|none=>[])++gat ns c l
theorem mQ {ns:List Nd}{c:Int}:∀ l m,gat ns c (l++m)=gat ns c l++gat ns c m
 | [],_=>rfl
 | i::l,m=>by simp[gat,mQ l m]
def stp (ns:List Nd) (F:Nat) (set:List Nat) (c:Int):Option (List Nat):=
 if set=[0] then some [0] else
 match gat ns c set with
 | []=>some []
 | x::xs=>clo ns F [] (x::xs).reverse []
theorem Cj (l:List Nat):dI l=aC (l.map λk:Nat=>(k:Int)):=by simp[lst]
theorem BZ {l:List Nat}(hl:l.length<=1000000):Pu Tryz.prog 148 [dI l] (boo (decide (l=[0]))):=by
 rw[Cj];have h:=Ii (l:=l.map λk:Nat=>(k:Int)) (by simpa using hl)
 rwa [show decide (l=[0])=decide ((l.map λk:Nat=>(k:Int))=[0]) from by
  congr 1;apply propext
  match l with
  | []=>simp
  | [x]=>simp
  | x::y::l=>simp]
theorem rK {ns:List Nd}{c:Int}{l:List Nat}{k:Nat}(h:k<l.length) (hk:l[k]<ns.length):gat ns c (l.take (k+1))=gat ns c (l.take k)++(if c∈ns[l[k]].cls then ns[l[k]].to else []):=by
 rw[bI h,mQ];simp[gat,List.getElem?_eq_getElem hk]
theorem BQ {ns:List Nd}{c:Int}{l:List Nat}(k:Nat):(gat ns c (l.take k)).length<=(gat ns c l).length:=by
 conv=>rhs;rw[<-List.take_append_drop k l,mQ]
 simp
theorem gro (a c:List Nat){z m:Nat}(hz:z=0) (hm:m=a.length):((a.flatMap λk=>[cR k]).drop z).take m++(c.map λk:Nat=>i64 (k:Int))=(a++c).flatMap λk=>[cR k]:=by
 subst hz;subst hm;rw[List.drop_zero,kE (by rw[aN];simp),List.flatMap_append,aN c]
theorem ED {ns:List Nd}{b:Bool}{set r:List Nat}{c:Int}{F:Nat}(hF:F<=100000) (hl:ns.length<=100000) (hset:∀ i (h:i<set.length),set[i]<ns.length) (hn:set.length<=100000) (hcl:∀ i (h:i<ns.length),ns[i].cls.length<=1000000)
  (hg:(gat ns c set).length<=100000) (h:stp ns F set c=some r):Pu Tryz.prog 149 [iP ns b,dI set,i64 c] (dI r):=by
 refine pv Tryz.func149 ?_;unfold stp at h;repeat' ((conv=>whnf);first|exact kQ|(refine bk ?_ ?_<;>intro _<;>try exact exo)|refine stq ?_|refine cd (BZ sd) (λ_=>?_) (λ_=>?_)|fail)
 all_goals(conv=>whnf)
 .rename_i he;rw[if_pos he] at h;injection h with h;subst h
  subst he;exact aD.same (b9 _) rfl
 rename_i he;rw[if_neg he] at h
 refine aG.by2 aB T0 (λ(k:Nat) (o:List Nat)=>⟨tmp 43 [(0,iP ns b),(2,i64 c),(7,aP 0 1 o),(13,dI set),(14,i64 set.length),(15,i64 (k:Int))],⟨1,bS 0 (λk=>[cR k]) o⟩⟩)
  (λk o=>k<=set.length/\o=gat ns c (set.take k)) (λk _=>set.length-k) 0 [] ⟨om,rfl⟩ ?_ ?_
 .exact lq0
 intro k o ⟨h3,h4⟩;have ho:=BQ (ns:=ns) (c:=c) (l:=set) k;rw[<-h4] at ho;by_cases hk:k<set.length
 .have h5:=hset k hk;have h6:=hcl _ h5;have h7:=BQ (ns:=ns) (c:=c) (l:=set) (k+1);rw[rK hk h5,<-h4] at h7;by_cases hm:c∈ns[set[k]].cls
  .have h8:o.length+ns[set[k]].to.length<=100000:=by rw[if_pos hm] at h7;simp at h7;omega
   have e1:gat ns c (set.take (k+1))=o++ns[set[k]].to:=by rw[rK hk h5,<-h4,if_pos hm]
   cases o with
   | nil=>
    repeat' ((conv=>whnf);first|exact kQ|(refine bk ?_ ?_<;>intro _<;>try exact exo)|refine stq ?_|refine cd (ji sd) (λ_=>?_) (λ_=>?_)|refine Idx.atS (c:=ndC) (λ_=>rfl) set[k] rfl h5 ?_|refine eI.lst ?_|refine Chk.mk (cE _) ?_|refine Chk.growX 8 1 rfl rfl om om (by rw[aN];simp) ?_|refine Chk.mk (by rw[aN,List.length_map];omega) ?_|fail)
    all_goals(conv=>whnf)
    .refine⟨k+1,[],⟨om,by rw[e1,show ns[set[k]].to=[] from List.eq_nil_of_length_eq_zero asm];rfl⟩,om,?_⟩;exact lq0
    .obtain⟨y,ys,hy⟩:=kI (show 0<ns[set[k]].to.length by omega);refine⟨k+1,y::ys,⟨om,by rw[e1,hy];rfl⟩,om,?_⟩;exact lq [(0,_)] []
    .contradiction
   | cons x xs=>
    have hx2:(x::xs).length=xs.length+1:=rfl;repeat' ((conv=>whnf);first|exact kQ|(refine bk ?_ ?_<;>intro _<;>try exact exo)|refine stq ?_|refine cd (ji sd) (λ_=>?_) (λ_=>?_)|refine Idx.atS (c:=ndC) (λ_=>rfl) set[k] rfl h5 ?_|refine eI.lst ?_|refine Chk.mk (cE _) ?_|refine Chk.growX 8 1 rfl rfl om om (by rw[aN];simp) ?_|refine Chk.mk (by rw[aN,List.length_map];omega) ?_|fail)
    all_goals(conv=>whnf)
    .have hy:ns[set[k]].to=[]:=List.eq_nil_of_length_eq_zero om;have hy2:ns[set[k]].to.length=0:=by rw[hy];rfl
     refine⟨k+1,x::xs,⟨om,by rw[e1,hy];simp⟩,om,?_⟩;exact lq [(0,_)] []
    .refine⟨k+1,(x::xs)++ns[set[k]].to,⟨om,by rw[e1]⟩,om,?_⟩;exact lq [(0,_)] []
    .contradiction
  .have e1:gat ns c (set.take (k+1))=o:=by rw[rK hk h5,<-h4,if_neg hm];simp
   cases o with
   | nil=>
    repeat' ((conv=>whnf);first|exact kQ|(refine bk ?_ ?_<;>intro _<;>try exact exo)|refine stq ?_|refine cd (ji sd) (λ_=>?_) (λ_=>?_)|refine Idx.atS (c:=ndC) (λ_=>rfl) set[k] rfl h5 ?_|refine eI.lst ?_|refine Chk.mk (cE _) ?_|refine Chk.growX 8 1 rfl rfl om om (by rw[aN];simp) ?_|refine Chk.mk (by rw[aN,List.length_map];omega) ?_|fail)
    all_goals(conv=>whnf)
    .contradiction
    .contradiction
    .refine⟨k+1,[],⟨om,e1.symm⟩,om,?_⟩;exact lq0
   | cons x xs=>
    have hx2:(x::xs).length=xs.length+1:=rfl;repeat' ((conv=>whnf);first|exact kQ|(refine bk ?_ ?_<;>intro _<;>try exact exo)|refine stq ?_|refine cd (ji sd) (λ_=>?_) (λ_=>?_)|refine Idx.atS (c:=ndC) (λ_=>rfl) set[k] rfl h5 ?_|refine eI.lst ?_|refine Chk.mk (cE _) ?_|refine Chk.growX 8 1 rfl rfl om om (by rw[aN];simp) ?_|refine Chk.mk (by rw[aN,List.length_map];omega) ?_|fail)
    all_goals(conv=>whnf)
    all_goals first
     | contradiction
     | (refine⟨k+1,x::xs,⟨om,e1.symm⟩,om,?_⟩
        exact lq [(0,_)] [])
 .have h9:gat ns c set=o:=by rw[h4,kE om]
  rw[h9] at h;cases o with
  | nil=>
   injection h with h;subst h
   repeat' ((conv=>whnf);first|exact kQ|(refine bk ?_ ?_<;>intro _<;>try exact exo)|refine stq ?_|refine cp (yV sd) ?_|fail)
   (conv=>whnf)
   exact aD.same (b9 _) rfl
  | cons x xs=>
   have hx2:(x::xs).length=xs.length+1:=rfl;repeat' ((conv=>whnf);first|exact kQ|(refine bk ?_ ?_<;>intro _<;>try exact exo)|refine stq ?_|refine Cll.give (.cons (.same (fR _ _)) (.cons (.frz rfl rfl (by rw[aN,List.length_map];omega) (.eqs (by rw[List.drop_zero,kE (by rw[aN];simp),aN]) (aU (λ_=>rfl) _))) .nil)) (uD hF hl om h) ?_|fail)
   (conv=>whnf)
   exact aD.same (b9 _) rfl
end
section
variable [GT]
theorem rQ:∀ {a b:List Bool},jv a=jv b->a=b
 | [],[],_=>rfl
 | [],_::_,h=>by simp[jv] at h
 | _::_,[],h=>by simp[jv] at h
 | x::a,y::b,h=>by
  simp only[jv,List.map_cons,List.cons.injEq] at h;rw[rQ (a:=a) (b:=b) h.2];have:=h.1
  cases x<;>cases y<;>simp_all
abbrev kl (ss:List (List Bool)):List Str:=ss.map jv
abbrev ng (s:List Bool):List D:=[ap s]
abbrev auB (ss:List (List Bool)):List (Nat×Box):=(0,.cells [.map 1] true)::(1,.map (pos (kl ss) 0))::(2,.cells [aP 3 1 ss] true)::bS 3 ng ss
theorem zm {ss:List (List Bool)}{s:List Bool}(hl:s.length<=1000000) (hs:s∈ss) :
  AC1 Tryz.prog 152 [ap s,.ptr 0 0,.ptr 2 0] ⟨4,auB ss⟩ (i64 ((kl ss).idxOf (jv s):Int)) ⟨20,auB ss⟩:=by
 have hk:jv s∈kl ss:=List.mem_map_of_mem hs;refine AC1.of_vl aB T0 Tryz.func152 rfl rfl ?_;cases ss with
 | nil=>simp at hs
 | cons t ts=>
  repeat' ((conv=>whnf);first|exact kQ|(refine bk ?_ ?_<;>intro _<;>try exact exo)|refine stq ?_|refine cp (oK sd) ?_|(refine fW.pos (λ_ _=>?_) (λ_=>?_)<;>(try contradiction))|fail)
  (conv=>whnf)
  exact⟨Or.inr rfl,rfl,rfl⟩
abbrev auR (ss:List (List Bool)) (s:List Bool):List (Nat×Box):=(28,.cells ((ss++[s]).flatMap ng) false)::(27,.cells [ap s] true)::(0,.cells [.map 1] true)::(1,.map (pos (kl (ss++[s])) 0))::(2,.cells [.sl 28 0 (ss++[s]).length (ss++[s]).length 1 false] true)::[]
theorem GX (ss:List (List Bool)) (s:List Bool):auR ss s=[(28,.cells (((ss.flatMap ng).drop 0).take (ss.length*1)++ng s) false),(27,.cells [ap s] true),(0,.cells [.map 1] true),(1,.map (pos (kl ss) 0++[(D.str (jv s),i64 (ss.length:Int))])),(2,.cells [.sl 28 0 (ss.length+1) (ss.length+1) 1 false] true)]:=by
 unfold auR;rw[aQ (c:=ng) (sz:=1) (λ_=>rfl),kl,List.map_append,mI];simp[pos]
theorem tR {ss:List (List Bool)}{s:List Bool}(hl:s.length<=1000000) (hs:¬s∈ss) (hn:ss.length<=1000000) :
  AC1 Tryz.prog 152 [ap s,.ptr 0 0,.ptr 2 0] ⟨4,auB ss⟩ (i64 (ss.length:Int)) ⟨32,auR ss s⟩:=by
 have hk:¬jv s∈kl ss:=λh=>by
  obtain⟨x,h1,h2⟩:=List.mem_map.1 h;exact hs (rQ h2▸h1)
 refine AC1.of_vl aB T0 Tryz.func152 rfl rfl ?_;cases ss with
 | nil=>
  repeat' ((conv=>whnf);first|exact kQ|(refine bk ?_ ?_<;>intro _<;>try exact exo)|refine stq ?_|refine cp (oK sd) ?_|(refine fW.pos (λ_ _=>?_) (λ_=>?_)<;>(try contradiction))|fail)
  (conv=>whnf)
  exact⟨Or.inr rfl,rfl,by rw[GX];rfl⟩
 | cons t ts=>
  have ht:(t::ts).length=ts.length+1:=rfl;repeat' ((conv=>whnf);first|exact kQ|(refine bk ?_ ?_<;>intro _<;>try exact exo)|refine stq ?_|refine cp (oK sd) ?_|(refine fW.pos (λ_ _=>?_) (λ_=>?_)<;>(try contradiction))|fail)
  (conv=>whnf)
  exact⟨Or.inr rfl,rfl,by rw[GX];rfl⟩
end
section
variable [GT]
def wb (n:Int):Prop:=(65<=n/\n<=90)\/(97<=n/\n<=122)\/(48<=n/\n<=57)\/n=95
def yh (s:Str):Prop:=∀ i (h:i<s.length),wb (s[i].toNat:Int)
def kw:List Str:=[[107,101,101,112],[98,114,101,97,107],[109,117,115,116],[97,116,116,97,99,104],[97,110,121],[115,116,97,114,116],[101,110,100]]
theorem qJ {n:Int}:Pu Tryz.prog 201 [.v (.int .u8 n)] (boo (decide (wb n))):=by
 refine pv Tryz.func201 ?_;repeat' ((conv=>whnf);first|exact kQ|(refine bk ?_ ?_<;>intro _<;>try exact exo)|refine stq ?_)
 all_goals(conv=>whnf)
 all_goals first
  | exact aD.yes (by unfold wb;omega)
  | exact aD.no (by unfold wb;omega)
theorem Fb {s:Str}:Pu Tryz.prog 202 [.str s] (boo (decide (s∈kw))):=by
 refine pv Tryz.func202 ?_;repeat' ((conv=>whnf);first|exact kQ|(refine bk ?_ ?_<;>intro _<;>try exact exo)|refine stq ?_)
 all_goals(conv=>whnf)
 all_goals first
  | exact aD.yes (by simp_all [kw])
  | exact aD.no (by simp_all [kw])
theorem xp {s:Str}(hs:s.length<=9223372036854775807):Pu Tryz.prog 179 [.str s] (boo (decide (yh s/\s≠[]/\¬s∈kw))):=by
 refine pv Tryz.func179 ?_;repeat' ((conv=>whnf);first|exact kQ|(refine bk ?_ ?_<;>intro _<;>try exact exo)|refine stq ?_)
 refine aG.by aB T0 (λk:Nat=>⟨tmp 22 [(0,.str s),(5,i64 s.length),(6,i64 (k:Int))],⟨0,[]⟩⟩) (λk=>k<=s.length/\∀ i (h:i<s.length),i<k->wb (s[i].toNat:Int)) (λk=>s.length-k) 0 ⟨om,λ_ _ h=>om⟩ ?_ ?_
 .exact lq0
 intro k ⟨h1,h2⟩;repeat' ((conv=>whnf);first|exact kQ|(refine bk ?_ ?_<;>intro _<;>try exact exo)|refine stq ?_|refine cd qJ (λ_=>?_) (λ_=>?_)|refine cd Fb (λ_=>?_) (λ_=>?_)|fail)
 all_goals(conv=>whnf)
 all_goals first
  | exact aD.no (λhc=>absurd (hc.1 k om) asm)
  | exact aD.no (λhc=>hc.2.1 asm)
  | exact aD.no (λhc=>hc.2.2 asm)
  | exact aD.yes ⟨bt om h2,asm,asm⟩
  | skip
 refine⟨k+1,⟨om,aj om h2 asm⟩,om,?_⟩;exact lq0
def wbN (k:Nat):Bool:=(Nat.ble 65 k&&Nat.ble k 90) || (Nat.ble 97 k&&Nat.ble k 122) || (Nat.ble 48 k&&Nat.ble k 57) || Nat.beq k 95
theorem pQ {k:Nat}:wbN k=true↔wb (k:Int):=by
 simp only[wbN,wb,kN,kC,Nat.ble_eq,Nat.beq_eq];omega
def I5:Str->Bool
 | []=>true
 | b::s=>wbN b.toNat&&I5 s
theorem yi:∀ {s:Str},I5 s=true↔yh s
 | []=>⟨λ_ i h=>by simp at h,λ_=>rfl⟩
 | b::s=>by
  simp only[I5,kC,pQ,yi (s:=s)];constructor
  .intro h i hi;cases i with
   | zero=>exact h.1
   | succ i=>exact h.2 i (by simpa using hi)
  .intro h;exact⟨h 0 si,λi hi=>h (i+1) (by simpa using hi)⟩
def Cn (s:Str):List Str->Bool
 | []=>false
 | t::l=>jI s t || Cn s l
theorem qv {s:Str}:∀ {l:List Str},Cn s l=true↔s∈l
 | []=>by simp[Cn]
 | t::l=>by simp[Cn,cM,qv (l:=l)]
def qr (s:Str):Bool:=I5 s&&(match s with|[]=>false|_=>true)&&!Cn s kw
theorem oD {s:Str}:qr s=true↔(yh s/\s≠[]/\¬s∈kw):=by
 simp only[qr,kC,yi,Bool.not_eq_true',<-Bool.not_eq_true,qv];cases s<;>simp
theorem zE {k:Nat}:Pu Tryz.prog 201 [.v (.int .u8 (k:Int))] (boo (wbN k)):=by
 have:=qJ (n:=(k:Int))
 rwa [show decide (wb (k:Int))=wbN k from by
  by_cases hb:wbN k=true
  .rw[hb];exact decide_eq_true (pQ.1 hb)
  .rw[Bool.not_eq_true] at hb;rw[hb];exact decide_eq_false (λh=>by rw[pQ.2 h] at hb;cases hb)] at this
theorem Fc {s:Str}(hs:s.length<=1000):Pu Tryz.prog 179 [.str s] (boo (qr s)):=by
 have:=xp (s:=s) om
 rwa [show decide (yh s/\s≠[]/\¬s∈kw)=qr s from by
  by_cases hb:qr s=true
  .rw[hb];exact decide_eq_true (oD.1 hb)
  .rw[Bool.not_eq_true] at hb;rw[hb];exact decide_eq_false (λh=>by rw[oD.2 h] at hb;cases hb)] at this
end
section
variable [GT]
theorem JM {b:UInt8}:(b.toNat:Int).toNat.toUInt8=b:=by
 simp
theorem Il {s:Str}{b:UInt8}{h:aA}:Dj Tryz.prog 240 [.str s,byt b] h (i64 (Lib.countByte s b:Nat)):=by
 intro c vs R hvs;obtain⟨y1,ys,rfl,v1,hvs⟩:=hvs.inv;obtain⟨y2,ys,rfl,v2,hvs⟩:=hvs.inv;simp only[VS] at hvs;subst hvs;simp only[V] at v1 v2;obtain⟨_,rfl⟩:=v2;subst v1;refine⟨.int .i64 (Lib.countByte s b:Nat),?_,by simp[V,co]⟩;show(callFunc 240 #[.string ⟨s.toArray⟩,.int .u8 (b.toNat:Int)]).run Tryz.prog c.w=_;rw[run_callFunc_extern Tryz.func240 (by kernel_rfl) (by kernel_rfl) (by kernel_rfl) (e:=Extern.BytealgCount.count) (by kernel_rfl),Lib.run_countString,JM];rfl
theorem IR {s:Str}{b:UInt8}{h:aA}:Dj Tryz.prog 273 [.str s,byt b] h (i64 (Lib.indexByte s b)):=by
 intro c vs R hvs;obtain⟨y1,ys,rfl,v1,hvs⟩:=hvs.inv;obtain⟨y2,ys,rfl,v2,hvs⟩:=hvs.inv;simp only[VS] at hvs;subst hvs;simp only[V] at v1 v2;obtain⟨_,rfl⟩:=v2;subst v1;refine⟨.int .i64 (Lib.indexByte s b),?_,by simp[V,co]⟩;show(callFunc 273 #[.string ⟨s.toArray⟩,.int .u8 (b.toNat:Int)]).run Tryz.prog c.w=_;rw[run_callFunc_extern Tryz.func273 (by kernel_rfl) (by kernel_rfl) (by kernel_rfl) (e:=Extern.BytealgIndexByte.indexByte) (by kernel_rfl),Lib.run_indexByteString,JM];rfl
theorem JG {s:Str}{b:UInt8}:Pu Tryz.prog 210 [.str s,.str [b]] (i64 (Lib.countByte s b:Nat)):=by
 refine pv Tryz.func210 ?_;have hl1:([b]:Str).length=1:=rfl;repeat' ((conv=>whnf);first|refine Aa.mk si si ?_|refine bX.goX aB T0 ?_|exact kQ|(refine bk ?_ ?_<;>intro _<;>try exact exo)|refine stq ?_|refine sc.ext Il ?_|fail)
 all_goals(conv=>whnf)
 all_goals first|exact aD.same rfl rfl
theorem yx {s:Str}{b:UInt8}:Pu Tryz.prog 259 [.str s,byt b] (i64 (Lib.indexByte s b)):=by
 refine pv Tryz.func259 ?_;repeat' ((conv=>whnf);first|refine bX.goX aB T0 ?_|exact kQ|(refine bk ?_ ?_<;>intro _<;>try exact exo)|refine stq ?_|refine sc.ext IR ?_|fail)
 all_goals(conv=>whnf)
 all_goals first|exact aD.same rfl rfl
noncomputable def GH (l:Str):Nat->Nat:=List.rec (motive:=λ_=>Nat->Nat) (λ_=>0) (λx _ ih c=>Bool.rec (motive:=λ_=>Nat) (ih c) (ih c+1) (Nat.beq x.toNat c)) l
noncomputable def GR (l:Str):Nat->Nat->Int:=List.rec (motive:=λ_=>Nat->Nat->Int) (λ_ _=>-1) (λx _ ih c k=>Bool.rec (motive:=λ_=>Int) (ih c (k+1)) (Int.ofNat k) (Nat.beq x.toNat c)) l
theorem GU {x b:UInt8}:Nat.beq x.toNat b.toNat=(x == b):=by
 by_cases h:x=b
 .subst h;simp[Nat.beq_refl]
 .have:x.toNat≠b.toNat:=λe=>h (UInt8.toNat_inj.1 e)
  have e1:(x == b)=false:=beq_eq_false_iff_ne.2 h;rw[e1];cases hb:Nat.beq x.toNat b.toNat with
  | false=>rfl
  | true=>exact absurd (Nat.eq_of_beq_eq_true hb) this
theorem Bi {b:UInt8}:∀ {l:Str},GH l b.toNat=Lib.countByte l b
 | []=>rfl
 | x::l=>by
  show Bool.rec (motive:=λ_=>Nat) (GH l b.toNat) (GH l b.toNat+1) (Nat.beq x.toNat b.toNat)=_;rw[GU,Bi (l:=l)];unfold Lib.countByte;rw[List.count_cons];cases x == b<;>rfl
theorem Bo {b:UInt8}:∀ {l:Str}{k:Nat},GR l b.toNat k=if Lib.indexByte l b = -1 then -1 else Lib.indexByte l b+k
 | [],_=>rfl
 | x::l,k=>by
  show Bool.rec (motive:=λ_=>Int) (GR l b.toNat (k+1)) (Int.ofNat k) (Nat.beq x.toNat b.toNat)=_;rw[GU,Bo (l:=l)];have hge:=Lib.indexByte_ge l b;rw[show Lib.indexByte (x::l) b=if x == b then 0 else if Lib.indexByte l b == -1 then -1 else Lib.indexByte l b+1 from rfl];cases hx:x == b
  .simp only[Bool.false_eq_true,if_false,beq_iff_eq];by_cases h:Lib.indexByte l b = -1
   .simp[h]
   .have:¬Lib.indexByte l b+1 = -1:=om
    simp only[h,this,if_false];omega
  .simp
theorem JH {s:Str}{b:UInt8}:Pu Tryz.prog 210 [.str s,.str [b]] (i64 (Int.ofNat (GH s b.toNat))):=by
 rw[Bi];exact JG
theorem yy {s:Str}{b:UInt8}:Pu Tryz.prog 259 [.str s,.v (.int .u8 (Int.ofNat b.toNat))] (i64 (GR s b.toNat 0)):=by
 have e:GR s b.toNat 0=Lib.indexByte s b:=by
  rw[Bo];split
  .rename_i h;exact h.symm
  .simp
 rw[e];exact yx
end
end Go.Proofs.YtlimkdlhldlolaaGreatDoor
