/-
  Contracts of functions over data: sets of code points made by the program.
-/
import Derived.Test.YtpgcjpcenaefpaaGreatDoorG0
import Derived.Test.YtpgcjpcenaefpaaGreatDoorC0
import Derived.Test.YtpgcjpcenaefpaaGreatDoorAmF
set_option linter.unusedSectionVars false
namespace Go.Proofs.YtpgcjpcenaefpaaGreatDoor
section
open Go Go.Am Classical
set_option maxRecDepth 100000
theorem xH5.rdX {p:Prop}(h:p:=by first|exact Rd.same rfl|exact Rd.nil|exact Rd.sl' rfl hle'.symm hle'.symm|exact Rd.frzL bB bP rfl rfl hsl0.symm rfl rfl|exact Rd.frz rfl rfl (kD rfl) (Rds.eqs rfl rfl)|exact Rd.sl' rfl sim sim|fail):p:=h
theorem xH5.rbX {p:Prop}(h:p:=by first|exact Rb.cells (Rds.eqs (aS (c:=bm) (sz:=2) bB (x::xs) (⟨0,1114111⟩:Rng)) (aE bP _)) rfl|exact Rb.cells (Rds.eqs (aS (c:=bm) (sz:=2) bB (x::xs) (⟨0,l[k].hi⟩:Rng)) (aE bP _)) rfl|exact Rb.cells (Rds.eqs (aS (c:=bm) (sz:=2) bB (x::xs) (⟨l[k].lo,1114111⟩:Rng)) (aE bP _)) rfl|exact Rb.cells (Rds.eqs (aS (c:=bm) (sz:=2) bB (x::xs) (⟨l[k].lo,l[k].hi⟩:Rng)) (aE bP _)) rfl|exact Rb.cells (Rds.eqs (aS (c:=bm) (sz:=2) bB (y::ys) s[k]) (aE bP _)) rfl|exact Rb.cells (Rds.eqs (by first|(rw[<-h5];rfl;done)|fail) (aE bP _)) rfl|exact Rb.cells (Rds.eqs (by first|(rw[e3];done)|fail) (aE bP _)) rfl|exact Rb.cells (Rds.eqs (by first|(rw[<-e3];done)|fail) (aE bP _)) rfl|exact Rb.cells (Rds.eqs (by first|(rw[he];done)|fail) (aE bP _)) rfl|fail):p:=h
open xH5
variable [GT]
theorem bB (r:Rng):(bm r).length=2:=rfl
theorem bP (r:Rng):aF (bm r)=true:=rfl
abbrev r8 (l:List Rng):D:=.agg [aq l]
theorem Or_c {l:List Int}(hl:l.length<=1000):Pu Tryz.prog 320 [aD l] (i64 (gy l)):=by
 refine pv Tryz.func320 ?_;repeat' ((conv=>whnf);first|exact kQ|(refine bk ?_ ?_<;>intro _<;>try exact exo)|refine stq ?_)
 refine aG.by aB T0 (λk:Nat=>⟨tmp 18 [(3,i64 0),(6,aD l),(7,i64 l.length),(8,i64 (k:Int))],⟨0,[]⟩⟩)
  (λk=>k<=l.length/\∀ i (h:i<l.length),i<k->l[i]=0) (λk=>l.length-k) 0 ⟨om,λ_ _ h=>om⟩ ?_ ?_
 .exact lq0
 intro k ⟨h3,h4⟩;repeat' ((conv=>whnf);first|exact kQ|(refine bk ?_ ?_<;>intro _<;>try exact exo)|refine stq ?_)
 all_goals(conv=>whnf)
 all_goals first
  | exact aC.int (vN om h4 asm).symm
  | exact aC.int (lK.2 (bh om h4)).symm
  | (refine⟨k+1,⟨om,ag om h4 om⟩,om,?_⟩
     exact lq0)
theorem HR {a b:Rng}:CJ a b=gy [iC a.lo b.lo,iC a.hi b.hi]:=by
 unfold CJ iC gy gy gy;repeat' split
 all_goals omega
theorem ordR_c {a b:Rng}:Pu Tryz.prog 329 [.agg (bm a),.agg (bm b)] (i64 (CJ a b)):=by
 refine pv Tryz.func329 ?_;repeat' ((conv=>whnf);first|exact kQ|(refine bk ?_ ?_<;>intro _<;>try exact exo)|refine stq ?_|refine ac.byM (id:=1) aB T0 [0,1,0,4,15,0,32,0,128,511,1023,2047,4095] (by kernel_rfl) ?_|refine CM.pu ja ?_|refine Chk.mk ⟨_,rfl⟩ ?_|refine Chk.mk (by intro h;simp at h;simp[h]) ?_|(refine CM.w ?_;refine Cll.emb (Or_c (l:=[iC a.lo b.lo,iC a.hi b.hi]) si ⟨0,[]⟩) [] [13] (i64 (gy [iC a.lo b.lo,iC a.hi b.hi])) [] [(0,.cells (bm a) true),(1,.cells (bm b) true)] rfl cO bxA rdA bxA reA ?_)|fail)
 all_goals(conv=>whnf)
 exact aC.int HR.symm
abbrev Fv:D:=.fn (.func 329) [] []
theorem Hv {l:List Rng}(hl:l.length<=12) (hn:l≠[]):AC1 Tryz.prog 331 [.sl 0 0 l.length l.length 2 false,i64 0,i64 l.length,Fv] ⟨1,[(0,.cells (l.flatMap bm) false)]⟩ (.tup []) ⟨4,[(0,.cells ((iA ltR zR l).flatMap bm) false)]⟩:=by
 have h0:0<l.length:=List.length_pos_iff.2 hn;refine AC1.of_vl aB T0 Tryz.func331 rfl rfl ?_;repeat' ((conv=>whnf);first|exact kQ|(refine bk ?_ ?_<;>intro _<;>try exact exo)|refine stq ?_)
 refine aG.by aB T0 (λi:Nat=>⟨tmp 53 [(0,.sl 0 0 l.length l.length 2 false),(1,i64 0),(2,i64 l.length),(3,Fv),(8,i64 ((i+1:Nat):Int))],⟨1,[(0,.cells ((oA ltR zR l i).flatMap bm) false)]⟩⟩)
  (λi=>i<l.length) (λi=>l.length-i) 0 h0 ?_ ?_
 .exact lq0
 intro i h1;by_cases h2:i+1<l.length
 .repeat' ((conv=>whnf);first|exact kQ|(refine bk ?_ ?_<;>intro _<;>try exact exo)|refine stq ?_|fail)
  refine aG.by2 aB T0 (λ(j:Nat) (cur:List Rng)=>⟨tmp 53 [(0,.sl 0 0 l.length l.length 2 false),(1,i64 0),(2,i64 l.length),(3,Fv),(8,i64 ((i+1:Nat):Int)),(9,i64 (j:Int))],⟨1,[(0,.cells (cur.flatMap bm) false)]⟩⟩)
   (λj cur=>j<l.length/\cur.length=l.length/\vH ltR zR cur j=oA ltR zR l (i+1)) (λj _=>j) (i+1) (oA ltR zR l i) ⟨h2,si,rfl⟩ ?_ ?_
  .exact lq0
  intro j cur ⟨h3,h4,h5⟩;cases j with
  | zero=>
   repeat' ((conv=>whnf);first|exact kQ|(refine bk ?_ ?_<;>intro _<;>try exact exo)|refine stq ?_|refine ac.by (id:=4) aB T0 [0,0,3,7,15,15,15,111,239,15,15,1039,3599,7695,16383,32767,65535] (by kernel_rfl) ?_|fail)
   all_goals(conv=>whnf)
   refine⟨i+1,h2,om,?_⟩;exact lq0
  | succ j=>
   have e1:cur.getD j zR=cur[j]:=aI om;have e2:cur.getD (j+1) zR=cur[j+1]:=aI om;repeat' ((conv=>whnf);first|exact kQ|(refine bk ?_ ?_<;>intro _<;>try exact exo)|refine stq ?_|refine cp ordR_c ?_|refine ac.by (id:=4) aB T0 [0,0,3,7,15,15,15,111,239,15,15,1039,3599,7695,16383,32767,65535] (by kernel_rfl) ?_|refine ac.by (id:=6) aB T0 [0,0,0,0,8,0,0,64,224,480,0,0,3072,7168,16355,32739,65535,131071] (by kernel_rfl) ?_|refine b7.at (j+1) om om ?_|refine b7.at j om om ?_|refine Get.flat bB (j+1) om om ?_|refine Get.flat bB j om om ?_|refine Put.flat bB (l:=cur) (j+1) (cur[j]'(by omega)) om om ?_|refine Put.flat bB (l:=cur.set (j+1) (cur[j]'(by omega))) j (cur[j+1]'(by omega)) om (by simp;omega) ?_|fail)
   all_goals(conv=>whnf)
   .have hlt:ltR cur[j+1] cur[j]=true:=decide_eq_true asm;have e3:uY zR cur j=(cur.set (j+1) (cur[j]'(by omega))).set j (cur[j+1]'(by omega)):=by rw[uY,e1,e2]
    refine⟨j,uY zR cur j,⟨om,by simp[h4],?_⟩,om,?_⟩
    .rw[<-h5];simp only[vH,e1,e2,hlt,if_true]
    exact lq0
   .have hlt:¬ltR cur[j+1] cur[j]=true:=by rw[ltR,decide_eq_true_eq];assumption
    have e3:cur=oA ltR zR l (i+1):=by rw[<-h5];simp only[vH,e1,e2,hlt];simp
    refine⟨i+1,h2,om,?_⟩;exact lq0
 .repeat' ((conv=>whnf);first|exact kQ|(refine bk ?_ ?_<;>intro _<;>try exact exo)|refine stq ?_|fail)
  all_goals(conv=>whnf)
  have e:iA ltR zR l=oA ltR zR l i:=by rw[iA,show l.length-1=i from om]
  exact⟨Or.inl rfl,rfl,by rw[e]⟩
theorem Ia {l:List Rng}(hl:l.length<=12) (hn:l≠[]):AC1 Tryz.prog 328 [.sl 0 0 l.length l.length 2 false,Fv] ⟨1,[(0,.cells (l.flatMap bm) false)]⟩ (.tup []) ⟨27,[(0,.cells ((iA ltR zR l).flatMap bm) false)]⟩:=by
 have hlen:Pu Tryz.prog 215 [.v (.int .u64 (IntKind.u64.wrap (l.length:Int)))] (i64 (([0,1,2,2,3,3,3,3,4,4,4,4,4]:List Int).getD l.length 0)):=by
  rw[show IntKind.u64.wrap (l.length:Int)=(l.length:Int) from by simp[IntKind.wrap,IntKind.bits,IntKind.signed];omega];exact Bm hl
 refine AC1.of_vl aB T0 Tryz.func328 rfl rfl ?_;repeat' ((conv=>whnf);first|exact kQ|(refine bk ?_ ?_<;>intro _<;>try exact exo)|refine stq ?_|refine cp hlen ?_|(apply Cll.inl aB T0 Tryz.func330 rfl rfl ?_;rotate_left)|exact⟨Or.inr rfl,rfl,rfl⟩|refine aG.times aB T0 1 ?_|refine Cll.emb (Hv hl hn) [(0,0)] [] (.tup []) [(0,.cells ((iA ltR zR l).flatMap bm) false)] [] rfl cO bxA rdA bxA reA ?_|fail)
 all_goals(conv=>whnf)
 exact⟨Or.inl rfl,rfl,rfl⟩
theorem DK:Pu Tryz.prog 328 [aJ,Fv] (.tup []):=by
 have hlen:Pu Tryz.prog 215 [.v (.int .u64 (IntKind.u64.wrap (0:Int)))] (i64 0):=Bm (n:=0) om;refine pv Tryz.func328 ?_;repeat' ((conv=>whnf);first|exact kQ|(refine bk ?_ ?_<;>intro _<;>try exact exo)|refine stq ?_|refine cp hlen ?_|(apply Cll.inl aB T0 Tryz.func330 rfl rfl ?_;rotate_left)|(apply Cll.inl aB T0 Tryz.func331 rfl rfl ?_;rotate_left)|exact⟨Or.inr rfl,rfl,rfl⟩|exact⟨Or.inl rfl,rfl,rfl⟩|refine aG.times aB T0 1 ?_|fail)
 all_goals(conv=>whnf)
 exact aC.same rfl rfl
theorem tz {r:Rng}{a b:Int}(h1:a=max r.lo 0) (h2:b=min r.hi 1114111):jb r=⟨a,b⟩:=by rw[jb,h1,h2]
theorem dO {l:List Rng}{k:Nat}(h:k<l.length){a b:Int}(h1:a=max l[k].lo 0) (h2:b=min l[k].hi 1114111) (hab:a<=b):dD (l.take (k+1))=dD (l.take k)++[⟨a,b⟩]:=by
 rw[dD,bE h,List.map_append,List.filter_append,List.map_singleton,tz h1 h2,List.filter_cons_of_pos (by simpa using hab)];rfl
theorem eI {l:List Rng}{k:Nat}(h:k<l.length){a b:Int}(h1:a=max l[k].lo 0) (h2:b=min l[k].hi 1114111) (hab:¬a<=b):dD (l.take (k+1))=dD (l.take k):=by
 rw[dD,bE h,List.map_append,List.filter_append,List.map_singleton,tz h1 h2,List.filter_cons_of_neg (by simpa using hab),List.filter_nil,List.append_nil];rfl
theorem zP (l:List Rng):(dD l).length<=l.length:=Nat.le_trans (List.length_filter_le _ _) si
theorem CF {l:List Rng}{r:Rng}(h:r∈dD l):0<=r.hi/\r.hi<=1114111:=by
 simp only[dD,List.mem_filter,List.mem_map,decide_eq_true_eq] at h;obtain⟨⟨q,_,rfl⟩,h2⟩:=h;simp only[jb] at h2 ⊢;omega
theorem iX (y:Rng) (ys:List Rng) (m:Nat) (v:Rng):∃ y' ys',(y::ys).set m v=y' :: ys':=by cases m<;>exact⟨_,_,rfl⟩
theorem vD {o:List Rng}(h:0<o.length):o.getLast?=some (o[o.length-1]'(by omega)):=by rw[List.getLast?_eq_getElem?,List.getElem?_eq_getElem om]
theorem wQ {o:List Rng}(h:0<o.length) (v:Rng):o.dropLast++[v]=o.set (o.length-1) v:=by
 obtain⟨q,y,rfl⟩:∃ q y,o=q++[y]:=⟨o.dropLast,o.getLast (by rintro rfl;simp at h),(List.dropLast_concat_getLast _).symm⟩;simp
theorem m7 {o l:List Rng}{r:Rng}{hi:Int}(h:0<o.length) (hc:r.lo<=(o[o.length-1]'(by omega)).hi+1) (hh:hi=max (o[o.length-1]'(by omega)).hi r.hi):mrg o (r::l)=mrg (o.set (o.length-1) ⟨(o[o.length-1]'(by omega)).lo,hi⟩) l:=by
 rw[mrg,vD h];simp only;rw[if_pos hc,wQ h,<-hh]
theorem A0 {o l:List Rng}{r:Rng}(h:0<o.length) (hc:¬r.lo<=(o[o.length-1]'(by omega)).hi+1):mrg o (r::l)=mrg (o++[r]) l:=by
 rw[mrg,vD h];simp only;rw[if_neg hc]
set_option maxHeartbeats 8000000 in
theorem GN {l:List Rng}(hl:l.length<=12):Pu Tryz.prog 327 [aq l] (r8 (mkR l)):=by
 refine pv Tryz.func327 ?_;repeat' ((conv=>whnf);first|exact kQ|(refine bk ?_ ?_<;>intro _<;>try exact exo)|refine stq ?_)
 refine aG.by2 aB T0 (λ(k:Nat) (o:List Rng)=>⟨tmp 79 [(2,.ptr 0 0),(3,aP 1 2 o),(11,aq l),(12,i64 l.length),(13,i64 (k:Int))],⟨2,(0,.cells [aJ] true)::bK 1 bm o⟩⟩)
  (λk o=>k<=l.length/\o=dD (l.take k)) (λk _=>l.length-k) 0 [] ⟨om,rfl⟩ ?_ ?_
 .exact lq [(0,_)] []
 intro k o ⟨h3,h4⟩;have h5:o.length<=k:=by rw[h4];exact Nat.le_trans (zP _) (by simp;omega)
 by_cases hk:k<l.length
 .by_cases ha:l[k].lo<0
  .by_cases hb:1114111<l[k].hi
   .
    cases o with
    | nil=>
     repeat' ((conv=>whnf);first|exact kQ|(refine bk ?_ ?_<;>intro _<;>try exact exo)|refine stq ?_)
     all_goals(conv=>whnf)
     all_goals first
      | (refine⟨k+1,[],⟨om,by rw[eI hk (a:=0) (b:=1114111) om om om];exact h4⟩,om,?_⟩
         exact lq [(0,_)] [])
      | (refine⟨k+1,[⟨0,1114111⟩],⟨om,by rw[dO hk (a:=0) (b:=1114111) om om om,<-h4];rfl⟩,om,?_⟩
         exact lq [(0,_),(1,_)] [])
    | cons x xs=>
     have hlen:(x::xs).length<=12:=by omega
     repeat' ((conv=>whnf);first|exact kQ|(refine bk ?_ ?_<;>intro _<;>try exact exo)|refine stq ?_)
     all_goals(conv=>whnf)
     all_goals first
      | (refine⟨k+1,x::xs,⟨om,by rw[eI hk (a:=0) (b:=1114111) om om om];exact h4⟩,om,?_⟩
         exact lq [(0,_),(1,_)] [])
      | (refine⟨k+1,(x::xs)++[⟨0,1114111⟩],⟨om,by rw[dO hk (a:=0) (b:=1114111) om om om,<-h4]⟩,om,?_⟩
         exact lq [(0,_),(1,_)] [])
   .
    cases o with
    | nil=>
     repeat' ((conv=>whnf);first|exact kQ|(refine bk ?_ ?_<;>intro _<;>try exact exo)|refine stq ?_)
     all_goals(conv=>whnf)
     all_goals first
      | (refine⟨k+1,[],⟨om,by rw[eI hk (a:=0) (b:=l[k].hi) om om om];exact h4⟩,om,?_⟩
         exact lq [(0,_)] [])
      | (refine⟨k+1,[⟨0,l[k].hi⟩],⟨om,by rw[dO hk (a:=0) (b:=l[k].hi) om om om,<-h4];rfl⟩,om,?_⟩
         exact lq [(0,_),(1,_)] [])
    | cons x xs=>
     have hlen:(x::xs).length<=12:=by omega
     repeat' ((conv=>whnf);first|exact kQ|(refine bk ?_ ?_<;>intro _<;>try exact exo)|refine stq ?_)
     all_goals(conv=>whnf)
     all_goals first
      | (refine⟨k+1,x::xs,⟨om,by rw[eI hk (a:=0) (b:=l[k].hi) om om om];exact h4⟩,om,?_⟩
         exact lq [(0,_),(1,_)] [])
      | (refine⟨k+1,(x::xs)++[⟨0,l[k].hi⟩],⟨om,by rw[dO hk (a:=0) (b:=l[k].hi) om om om,<-h4]⟩,om,?_⟩
         exact lq [(0,_),(1,_)] [])
  .by_cases hb:1114111<l[k].hi
   .
    cases o with
    | nil=>
     repeat' ((conv=>whnf);first|exact kQ|(refine bk ?_ ?_<;>intro _<;>try exact exo)|refine stq ?_)
     all_goals(conv=>whnf)
     all_goals first
      | (refine⟨k+1,[],⟨om,by rw[eI hk (a:=l[k].lo) (b:=1114111) om om om];exact h4⟩,om,?_⟩
         exact lq [(0,_)] [])
      | (refine⟨k+1,[⟨l[k].lo,1114111⟩],⟨om,by rw[dO hk (a:=l[k].lo) (b:=1114111) om om om,<-h4];rfl⟩,om,?_⟩
         exact lq [(0,_),(1,_)] [])
    | cons x xs=>
     have hlen:(x::xs).length<=12:=by omega
     repeat' ((conv=>whnf);first|exact kQ|(refine bk ?_ ?_<;>intro _<;>try exact exo)|refine stq ?_)
     all_goals(conv=>whnf)
     all_goals first
      | (refine⟨k+1,x::xs,⟨om,by rw[eI hk (a:=l[k].lo) (b:=1114111) om om om];exact h4⟩,om,?_⟩
         exact lq [(0,_),(1,_)] [])
      | (refine⟨k+1,(x::xs)++[⟨l[k].lo,1114111⟩],⟨om,by rw[dO hk (a:=l[k].lo) (b:=1114111) om om om,<-h4]⟩,om,?_⟩
         exact lq [(0,_),(1,_)] [])
   .
    cases o with
    | nil=>
     repeat' ((conv=>whnf);first|exact kQ|(refine bk ?_ ?_<;>intro _<;>try exact exo)|refine stq ?_)
     all_goals(conv=>whnf)
     all_goals first
      | (refine⟨k+1,[],⟨om,by rw[eI hk (a:=l[k].lo) (b:=l[k].hi) om om om];exact h4⟩,om,?_⟩
         exact lq [(0,_)] [])
      | (refine⟨k+1,[⟨l[k].lo,l[k].hi⟩],⟨om,by rw[dO hk (a:=l[k].lo) (b:=l[k].hi) om om om,<-h4];rfl⟩,om,?_⟩
         exact lq [(0,_),(1,_)] [])
    | cons x xs=>
     have hlen:(x::xs).length<=12:=by omega
     repeat' ((conv=>whnf);first|exact kQ|(refine bk ?_ ?_<;>intro _<;>try exact exo)|refine stq ?_)
     all_goals(conv=>whnf)
     all_goals first
      | (refine⟨k+1,x::xs,⟨om,by rw[eI hk (a:=l[k].lo) (b:=l[k].hi) om om om];exact h4⟩,om,?_⟩
         exact lq [(0,_),(1,_)] [])
      | (refine⟨k+1,(x::xs)++[⟨l[k].lo,l[k].hi⟩],⟨om,by rw[dO hk (a:=l[k].lo) (b:=l[k].hi) om om om,<-h4]⟩,om,?_⟩
         exact lq [(0,_),(1,_)] [])
 .have ho:o=dD l:=by rw[h4,kE om]
  cases o with
  | nil=>
   have hs0:iA ltR zR (dD l)=[]:=by rw[<-ho];rfl
   have hend:mkR l=mrg [] (iA ltR zR (dD l)):=rfl;repeat' ((conv=>whnf);first|exact kQ|(refine bk ?_ ?_<;>intro _<;>try exact exo)|refine stq ?_|refine cp DK ?_|fail)
   generalize hs:iA ltR zR (dD l)=s at *
   refine aG.by2 aB T0 (λ(k:Nat) (out:List Rng)=>⟨tmp 79 [(2,.ptr 0 0),(7,aP 1 2 out),(36,aq s),(37,i64 s.length),(38,i64 (k:Int))],⟨2,(0,.cells [aJ] true)::bK 1 bm out⟩⟩)
    (λk out=>((k<=s.length/\out.length<=k)/\∀ r,r∈out->0<=r.hi/\r.hi<=1114111)/\mrg [] s=mrg out (s.drop k)) (λk _=>s.length-k) 0 [] ⟨⟨⟨om,si⟩,si⟩,rfl⟩ ?_ ?_
   .subst hs0;exact lq [(0,_)] []
   have hsl:s.length<=12:=by rw[hs0];simp
   have hsb:∀ r,r∈s->0<=r.hi/\r.hi<=1114111:=by rw[hs0];simp
   intro k out ⟨⟨⟨h6,h7⟩,h9⟩,h8⟩;by_cases hk2:k<s.length
   .have hd:s.drop k=s[k]::s.drop (k+1):=kK hk2;cases out with
    | nil=>
     repeat' ((conv=>whnf);first|exact kQ|(refine bk ?_ ?_<;>intro _<;>try exact exo)|refine stq ?_)
     all_goals(conv=>whnf)
     refine⟨k+1,[s[k]],⟨⟨⟨om,si⟩,λr hr=>by simp only[List.mem_singleton] at hr;subst hr;exact hsb _ (kM hk2)⟩,by rw[h8,hd];rfl⟩,om,?_⟩;exact lq [(0,_),(1,_)] []
    | cons y ys=>
     have hpos:0<(y::ys).length:=by simp
     have hle:(y::ys).length<=12:=by omega
     have hb1:=h9 _ (kM (show(y::ys).length-1<(y::ys).length by omega));have hb2:=hsb _ (kM hk2);repeat' ((conv=>whnf);first|refine Get.flat1 bB ((y::ys).length-1) 1 (by dsimp only;omega) om rfl ?_|exact kQ|(refine bk ?_ ?_<;>intro _<;>try exact exo)|refine stq ?_|refine ac.by (id:=16) aB T0 [0,0,2,0,0,16,56,120,248,0,512,2040,4095,8191,16383] (by kernel_rfl) ?_|refine b7.at ((y::ys).length-1) om om ?_|refine Put.flat1 bB ((y::ys).length-1) 1 ⟨((y::ys)[(y::ys).length-1]'(by omega)).lo,s[k].hi⟩ (by dsimp only;omega) om om rfl ?_|refine Put.flat1 bB ((y::ys).length-1) 1 ⟨((y::ys)[(y::ys).length-1]'(by omega)).lo,((y::ys)[(y::ys).length-1]'(by omega)).hi⟩ (by dsimp only;omega) om om rfl ?_|fail)
     all_goals(conv=>whnf)
     all_goals first
      | (have hj:=m7 (l:=s.drop (k+1)) hpos asm (hi:=s[k].hi) om
         obtain⟨y',ys',he⟩:=iX y ys ((y::ys).length-1) ⟨((y::ys)[(y::ys).length-1]'(by omega)).lo,s[k].hi⟩;have hle':(y' :: ys').length=(y::ys).length:=by rw[<-he];simp
         refine⟨k+1,y' :: ys',⟨⟨⟨om,om⟩,λr hr=>by rw[<-he] at hr;rcases List.mem_or_eq_of_mem_set hr with hr|rfl<;>first|exact h9 r hr|exact hb2⟩,by rw[h8,hd,hj,he]⟩,om,?_⟩
         exact lq [(0,_),(1,_)] [])
      | (have hj:=m7 (l:=s.drop (k+1)) hpos asm (hi:=((y::ys)[(y::ys).length-1]'(by omega)).hi) om
         obtain⟨y',ys',he⟩:=iX y ys ((y::ys).length-1) ⟨((y::ys)[(y::ys).length-1]'(by omega)).lo,((y::ys)[(y::ys).length-1]'(by omega)).hi⟩;have hle':(y' :: ys').length=(y::ys).length:=by rw[<-he];simp
         refine⟨k+1,y' :: ys',⟨⟨⟨om,om⟩,λr hr=>by rw[<-he] at hr;rcases List.mem_or_eq_of_mem_set hr with hr|rfl<;>first|exact h9 r hr|exact hb1⟩,by rw[h8,hd,hj,he]⟩,om,?_⟩
         exact lq [(0,_),(1,_)] [])
      | (refine⟨k+1,(y::ys)++[s[k]],⟨⟨⟨om,by rw[kG];simp only[List.length_singleton];omega⟩,λr hr=>by rcases List.mem_append.1 hr with hr|hr<;>first|exact h9 r hr|exact(List.mem_singleton.1 hr)▸hb2⟩,by rw[h8,hd,A0 hpos asm]⟩,om,?_⟩
         exact lq [(0,_),(1,_)] [])
   .have he:mrg [] s=out:=by rw[h8,List.drop_of_length_le om];rfl
    rw[hend,he];cases out with
    | nil=>
     repeat' ((conv=>whnf);first|exact kQ|(refine bk ?_ ?_<;>intro _<;>try exact exo)|refine stq ?_)
     all_goals(conv=>whnf)
     exact⟨.agg (.cons .nil .nil)⟩
    | cons y ys=>
     repeat' ((conv=>whnf);first|exact kQ|(refine bk ?_ ?_<;>intro _<;>try exact exo)|refine stq ?_)
     all_goals(conv=>whnf)
     exact⟨.agg (.cons (Rd.frzL bB bP rfl rfl rfl rfl rfl) .nil)⟩
  | cons x xs=>
   have hlen:(x::xs).length<=12:=by omega
   have hend:mkR l=mrg [] (iA ltR zR (x::xs)):=by rw[ho];rfl
   have hsl0:(iA ltR zR (x::xs)).length=(x::xs).length:=srtG_len ..;repeat' ((conv=>whnf);first|exact kQ|(refine bk ?_ ?_<;>intro _<;>try exact exo)|refine stq ?_|refine Cll.emb (Ia (l:=x::xs) hlen si) [(0,1)] [] (.tup []) [(1,.cells ((iA ltR zR (x::xs)).flatMap bm) false)] [(0,.cells [aJ] true)] rfl cO bxA rdA bxA reA ?_|fail)
   have hsb0:∀ r,r∈iA ltR zR (x::xs)->0<=r.hi/\r.hi<=1114111:=λr hr=>CF (by rw[<-ho];exact(qI _).1.mem_iff.1 hr)
   generalize hs:iA ltR zR (x::xs)=s at *
   refine aG.by2 aB T0 (λ(k:Nat) (out:List Rng)=>⟨tmp 79 [(2,.ptr 0 0),(7,aP 1 2 out),(36,aq s),(37,i64 s.length),(38,i64 (k:Int))],⟨2,(0,.cells [aJ] true)::bK 1 bm out⟩⟩)
    (λk out=>((k<=s.length/\out.length<=k)/\∀ r,r∈out->0<=r.hi/\r.hi<=1114111)/\mrg [] s=mrg out (s.drop k)) (λk _=>s.length-k) 0 [] ⟨⟨⟨om,si⟩,si⟩,rfl⟩ ?_ ?_
   .exact lq [(0,_)] [1]
   have hsl:s.length<=12:=om;have hsb:=hsb0;intro k out ⟨⟨⟨h6,h7⟩,h9⟩,h8⟩;by_cases hk2:k<s.length
   .have hd:s.drop k=s[k]::s.drop (k+1):=kK hk2;cases out with
    | nil=>
     repeat' ((conv=>whnf);first|exact kQ|(refine bk ?_ ?_<;>intro _<;>try exact exo)|refine stq ?_)
     all_goals(conv=>whnf)
     refine⟨k+1,[s[k]],⟨⟨⟨om,si⟩,λr hr=>by simp only[List.mem_singleton] at hr;subst hr;exact hsb _ (kM hk2)⟩,by rw[h8,hd];rfl⟩,om,?_⟩;exact lq [(0,_),(1,_)] []
    | cons y ys=>
     have hpos:0<(y::ys).length:=by simp
     have hle:(y::ys).length<=12:=by omega
     have hb1:=h9 _ (kM (show(y::ys).length-1<(y::ys).length by omega));have hb2:=hsb _ (kM hk2);repeat' ((conv=>whnf);first|refine Get.flat1 bB ((y::ys).length-1) 1 (by dsimp only;omega) om rfl ?_|exact kQ|(refine bk ?_ ?_<;>intro _<;>try exact exo)|refine stq ?_|refine ac.by (id:=16) aB T0 [0,0,2,0,0,16,56,120,248,0,512,2040,4095,8191,16383] (by kernel_rfl) ?_|refine b7.at ((y::ys).length-1) om om ?_|refine Put.flat1 bB ((y::ys).length-1) 1 ⟨((y::ys)[(y::ys).length-1]'(by omega)).lo,s[k].hi⟩ (by dsimp only;omega) om om rfl ?_|refine Put.flat1 bB ((y::ys).length-1) 1 ⟨((y::ys)[(y::ys).length-1]'(by omega)).lo,((y::ys)[(y::ys).length-1]'(by omega)).hi⟩ (by dsimp only;omega) om om rfl ?_|fail)
     all_goals(conv=>whnf)
     all_goals first
      | (have hj:=m7 (l:=s.drop (k+1)) hpos asm (hi:=s[k].hi) om
         obtain⟨y',ys',he⟩:=iX y ys ((y::ys).length-1) ⟨((y::ys)[(y::ys).length-1]'(by omega)).lo,s[k].hi⟩;have hle':(y' :: ys').length=(y::ys).length:=by rw[<-he];simp
         refine⟨k+1,y' :: ys',⟨⟨⟨om,om⟩,λr hr=>by rw[<-he] at hr;rcases List.mem_or_eq_of_mem_set hr with hr|rfl<;>first|exact h9 r hr|exact hb2⟩,by rw[h8,hd,hj,he]⟩,om,?_⟩
         exact lq [(0,_),(1,_)] [])
      | (have hj:=m7 (l:=s.drop (k+1)) hpos asm (hi:=((y::ys)[(y::ys).length-1]'(by omega)).hi) om
         obtain⟨y',ys',he⟩:=iX y ys ((y::ys).length-1) ⟨((y::ys)[(y::ys).length-1]'(by omega)).lo,((y::ys)[(y::ys).length-1]'(by omega)).hi⟩;have hle':(y' :: ys').length=(y::ys).length:=by rw[<-he];simp
         refine⟨k+1,y' :: ys',⟨⟨⟨om,om⟩,λr hr=>by rw[<-he] at hr;rcases List.mem_or_eq_of_mem_set hr with hr|rfl<;>first|exact h9 r hr|exact hb1⟩,by rw[h8,hd,hj,he]⟩,om,?_⟩
         exact lq [(0,_),(1,_)] [])
      | (refine⟨k+1,(y::ys)++[s[k]],⟨⟨⟨om,by rw[kG];simp only[List.length_singleton];omega⟩,λr hr=>by rcases List.mem_append.1 hr with hr|hr<;>first|exact h9 r hr|exact(List.mem_singleton.1 hr)▸hb2⟩,by rw[h8,hd,A0 hpos asm]⟩,om,?_⟩
         exact lq [(0,_),(1,_)] [])
   .have he:mrg [] s=out:=by rw[h8,List.drop_of_length_le om];rfl
    rw[hend,he];cases out with
    | nil=>
     repeat' ((conv=>whnf);first|exact kQ|(refine bk ?_ ?_<;>intro _<;>try exact exo)|refine stq ?_)
     all_goals(conv=>whnf)
     exact⟨.agg (.cons .nil .nil)⟩
    | cons y ys=>
     repeat' ((conv=>whnf);first|exact kQ|(refine bk ?_ ?_<;>intro _<;>try exact exo)|refine stq ?_)
     all_goals(conv=>whnf)
     exact⟨.agg (.cons (Rd.frzL bB bP rfl rfl rfl rfl rfl) .nil)⟩
end
section
open Go Go.Am Classical
set_option maxRecDepth 100000
variable [GT]
theorem zC {l:List Rng}(hl:l.length<=12):Pu Tryz.prog 326 [r8 l] (boo (decide (dA l))):=by
 have hm:=Hc (l:=l);refine pv Tryz.func326 ?_;by_cases hlen:l.length=(mkR l).length
 .repeat' ((conv=>whnf);first|exact kQ|(refine bk ?_ ?_<;>intro _<;>try exact exo)|refine stq ?_|refine cp (GN sd) ?_|fail)
  refine aG.by aB T0 (λk:Nat=>⟨tmp 32 [(1,.ptr 0 0),(17,aq (mkR l)),(18,i64 l.length),(19,i64 (k:Int))],⟨1,[(0,.cells [aq l] true)]⟩⟩)
   (λk=>k<=l.length/\∀ i (h:i<l.length),i<k->l[i]=(mkR l)[i]'(by omega)) (λk=>l.length-k) 0 ⟨om,λ_ _ h=>om⟩ ?_ ?_
  .exact lq [(0,_)] []
  intro k ⟨h3,h4⟩;by_cases hk:k<l.length
  .have hk':k<(mkR l).length:=by omega
   by_cases he:(mkR l)[k]=l[k]
   .repeat' ((conv=>whnf);first|exact kQ|(refine bk ?_ ?_<;>intro _<;>try exact exo)|refine stq ?_|refine ac.by aB T0 [0,0,2,0,14,30,63] (by kernel_rfl) ?_|refine Idx.atS (sz:=2) (c:=bm) (λ_=>rfl) k om om ?_|(split<;>rename_i heq<;>rw[he] at heq<;>first|(obtain rfl:=Option.some.inj (nw.symm.trans heq))|exact absurd (nw.symm.trans heq) si))
    all_goals(conv=>whnf)
    refine⟨k+1,⟨om,ag om h4 he.symm⟩,om,?_⟩;exact lq [(0,_)] []
   .repeat' ((conv=>whnf);first|exact kQ|(refine bk ?_ ?_<;>intro _<;>try exact exo)|refine stq ?_|refine ac.by aB T0 [0,0,2,0,14,30,63] (by kernel_rfl) ?_|refine Idx.atS (sz:=2) (c:=bm) (λ_=>rfl) k om om ?_|(split<;>rename_i heq<;>first|(obtain rfl:=Option.some.inj ((pM he).symm.trans heq))|exact absurd ((pM he).symm.trans heq) si))
    all_goals(conv=>whnf)
    exact aC.no (λhc=>he (List.getElem_of_eq (hm.2 hc).symm om))
  .repeat' ((conv=>whnf);first|exact kQ|(refine bk ?_ ?_<;>intro _<;>try exact exo)|refine stq ?_)
   all_goals(conv=>whnf)
   exact aC.yes (hm.1 (List.ext_getElem hlen λi h1 h2=>h4 i h1 om))
 .repeat' ((conv=>whnf);first|exact kQ|(refine bk ?_ ?_<;>intro _<;>try exact exo)|refine stq ?_|refine cp (GN sd) ?_|fail)
  all_goals(conv=>whnf)
  exact aC.no (λhc=>hlen (congrArg List.length (hm.2 hc)))
end
section
open Go Go.Am Classical
set_option maxRecDepth 100000
theorem xHC.rdX {p:Prop}(h:p:=by first|exact Rd.frz rfl rfl (kD rfl) (Rds.eqs rfl rfl)|fail):p:=h
open xHC
variable [GT]
theorem CU {s:Str}(hs:s.length<=9223372036854775807):Pu Tryz.prog 319 [.str s] (boo (decide (mD s))):=by
 refine pv Tryz.func319 ?_;repeat' ((conv=>whnf);first|exact kQ|(refine bk ?_ ?_<;>intro _<;>try exact exo)|refine stq ?_)
 all_goals(conv=>whnf)
 all_goals first
  | exact aC.no (λhc=>hc.1 asm)
  | exact aC.no (λhc=>by have:=hc.2.1;omega)
  | skip
 refine aG.by aB T0 (λk:Nat=>⟨tmp 51 [(0,.str s),(14,i64 s.length),(15,i64 (k:Int))],⟨0,[]⟩⟩) (λk=>k<=s.length/\∀ i (h:i<s.length),i<k->wb (s[i].toNat:Int)) (λk=>s.length-k) 0 ⟨om,λ_ _ h=>om⟩ ?_ ?_
 .exact lq0
 intro k ⟨h1,h2⟩;repeat' ((conv=>whnf);first|exact kQ|(refine bk ?_ ?_<;>intro _<;>try exact exo)|refine stq ?_)
 all_goals(conv=>whnf)
 all_goals first
  | exact aC.no (λhc=>absurd (hc.2.2 k om) (by unfold wb;omega))
  | exact aC.yes ⟨asm,om,bh om h2⟩
  | (refine⟨k+1,⟨om,ag om h2 (by unfold wb;omega)⟩,om,?_⟩
     exact lq0)
theorem FH {x:Str}:Pu Tryz.prog 322 [.str x] (boo false):=by
 refine pv Tryz.func322 ?_;repeat' ((conv=>whnf);first|exact kQ|(refine bk ?_ ?_<;>intro _<;>try exact exo)|refine stq ?_)
 all_goals(conv=>whnf)
 all_goals first
  | exact aC.same rfl rfl
  | (exfalso;rename_i h;exact h rfl)
theorem cmpS_c {x y:Str}:Pu Tryz.prog 321 [.str x,.str y] (i64 (vR x y)):=by
 refine pv Tryz.func321 ?_;repeat' ((conv=>whnf);first|exact kQ|(refine bk ?_ ?_<;>intro _<;>try exact exo)|refine stq ?_|refine cp FH ?_|fail)
 all_goals(conv=>whnf)
 all_goals first
  | exact aC.int (by rename_i h;rw[vR,if_pos h])
  | exact aC.int (by rename_i h1 h2;rw[vR,if_neg h1,if_pos (h2.resolve_left h1)])
  | exact aC.int (by rename_i h1 h2;rw[vR,if_neg h1,if_neg (λe=>h2 (.inr e))])
theorem IJ {a b:Mpg}:Fu a b=gy [iC a.frm b.frm,vR a.tag b.tag]:=by
 unfold Fu gy gy gy;repeat' split
 all_goals first|rfl|omega
theorem tw {a b:Mpg}:Pu Tryz.prog 317 [.agg (iu a),.agg (iu b)] (i64 (Fu a b)):=by
 refine pv Tryz.func317 ?_;repeat' ((conv=>whnf);first|exact kQ|(refine bk ?_ ?_<;>intro _<;>try exact exo)|refine stq ?_|refine ac.byM (id:=1) aB T0 [0,1,0,4,15,0,32,0,128,511,1023,2047,4095] (by kernel_rfl) ?_|refine CM.pu ja ?_|refine CM.pu cmpS_c ?_|refine Chk.mk ⟨_,rfl⟩ ?_|(refine CM.w ?_;refine Cll.emb (Or_c (l:=[iC a.frm b.frm,vR a.tag b.tag]) si ⟨0,[]⟩) [] [13] (i64 (gy [iC a.frm b.frm,vR a.tag b.tag])) [] [(0,.cells (iu a) true),(1,.cells (iu b) true)] rfl cO bxA rdA bxA reA ?_)|fail)
 all_goals(conv=>whnf)
 exact aC.int IJ.symm
abbrev Ht (m:Mpg):D:=.agg [i64 m.frm,.str m.tag]
theorem Hs {m:Mpg}:Pu Tryz.prog 318 [.agg (iu m)] (Ht m):=by
 refine pv Tryz.func318 ?_;repeat' ((conv=>whnf);first|exact kQ|(refine bk ?_ ?_<;>intro _<;>try exact exo)|refine stq ?_)
 all_goals(conv=>whnf)
 exact aC.same rfl rfl
structure GL (l:List Mpg):Prop where
 len:l.length<=9223372036854775806
 to:∀ i (h:i<l.length),l[i].to.length<=9223372036854775807
 tag:∀ i (h:i<l.length),l[i].tag.length<=9223372036854775807
theorem pE1 {l:List Mpg}{k:Nat}(hk:k<l.length) (h:¬kj l[k]):db l=1:=by rw[db,if_neg (λhc=>h (hc k hk))]
theorem pE2 {l:List Mpg}(h1:∀ i (h:i<l.length),kj l[i]){k:Nat}(hk:k<l.length) (h:¬l[k].to.length<=64):db l=2:=by rw[db,if_pos h1,if_neg (λhc=>h (hc k hk))]
theorem pE6 {l:List Mpg}(h1:∀ i (h:i<l.length),kj l[i]) (h2:∀ i (h:i<l.length),l[i].to.length<=64){k:Nat}(hk:k<l.length) (h:¬Dm l[k]):db l=6:=by rw[db,if_pos h1,if_pos h2,if_neg (λhc=>h (hc k hk))]
theorem pE0 {l:List Mpg}(h1:∀ i (h:i<l.length),kj l[i]) (h2:∀ i (h:i<l.length),l[i].to.length<=64) (h3:∀ i (h:i<l.length),Dm l[i]):db l=0:=by rw[db,if_pos h1,if_pos h2,if_pos h3]
theorem Ak {l:List Mpg}(ho:GL l):Pu Tryz.prog 316 [cQ l] (i64 (db l)):=by
 have hlen:=ho.len;refine pv Tryz.func316 ?_;repeat' ((conv=>whnf);first|exact kQ|(refine bk ?_ ?_<;>intro _<;>try exact exo)|refine stq ?_)
 refine aG.by aB T0 (λk:Nat=>⟨tmp 60 [(0,cQ l),(11,cQ l),(12,i64 l.length),(13,i64 (k:Int))],⟨0,[]⟩⟩)
  (λk=>k<=l.length/\∀ i (h:i<l.length),i<k->kj l[i]) (λk=>l.length-k) 0 ⟨om,λ_ _ h=>om⟩ ?_ ?_
 .exact lq0
 intro k ⟨h3,h4⟩;by_cases hk:k<l.length
 .have hto:=ho.to k hk;by_cases hf:cpQ l[k].frm
  .repeat' ((conv=>whnf);first|exact kQ|(refine bk ?_ ?_<;>intro _<;>try exact exo)|refine stq ?_|refine cd lP (λ_=>?_) (λ_=>?_)|fail)
   all_goals(conv=>whnf)
   all_goals first
    | (exfalso;rename_i h;exact h hf)
    | skip
   refine aG.by aB T0 (λj:Nat=>⟨tmp 60 [(0,cQ l),(11,cQ l),(12,i64 l.length),(13,i64 (k:Int)),(22,aD l[k].to),(23,i64 l[k].to.length),(24,i64 (j:Int))],⟨0,[]⟩⟩)
    (λj=>j<=l[k].to.length/\∀ i (h:i<l[k].to.length),i<j->cpQ l[k].to[i]) (λj=>l[k].to.length-j) 0 ⟨om,λ_ _ h=>om⟩ ?_ ?_
   .exact lq0
   intro j ⟨h5,h6⟩;repeat' ((conv=>whnf);first|exact kQ|(refine bk ?_ ?_<;>intro _<;>try exact exo)|refine stq ?_|refine cd lP (λ_=>?_) (λ_=>?_)|fail)
   all_goals(conv=>whnf)
   all_goals first
    | exact aC.int (pE1 hk λhc=>by rename_i h;exact h (hc.2 j om)).symm
    | (refine⟨j+1,⟨om,ag om h6 asm⟩,om,?_⟩
       exact lq0)
    | (refine⟨k+1,⟨om,ag om h4 ⟨hf,bh om h6⟩⟩,om,?_⟩
       exact lq0)
  .repeat' ((conv=>whnf);first|exact kQ|(refine bk ?_ ?_<;>intro _<;>try exact exo)|refine stq ?_|refine cd lP (λ_=>?_) (λ_=>?_)|fail)
   all_goals(conv=>whnf)
   all_goals first
    | (exfalso;rename_i h;exact hf h)
    | exact aC.int (pE1 hk λhc=>hf hc.1).symm
 .have g1:=bh (by omega:l.length<=k) h4;repeat' ((conv=>whnf);first|exact kQ|(refine bk ?_ ?_<;>intro _<;>try exact exo)|refine stq ?_|fail)
  refine aG.by aB T0 (λk:Nat=>⟨tmp 60 [(0,cQ l),(33,cQ l),(34,i64 l.length),(35,i64 (k:Int))],⟨0,[]⟩⟩)
   (λk=>k<=l.length/\∀ i (h:i<l.length),i<k->l[i].to.length<=64) (λk=>l.length-k) 0 ⟨om,λ_ _ h=>om⟩ ?_ ?_
  .exact lq0
  intro k ⟨h3,h4⟩;by_cases hk:k<l.length
  .have hto:=ho.to k hk;repeat' ((conv=>whnf);first|exact kQ|(refine bk ?_ ?_<;>intro _<;>try exact exo)|refine stq ?_)
   all_goals(conv=>whnf)
   all_goals first
    | exact aC.int (pE2 g1 hk om).symm
    | (refine⟨k+1,⟨om,ag om h4 om⟩,om,?_⟩
       exact lq0)
  .have g2:=bh (by omega:l.length<=k) h4;repeat' ((conv=>whnf);first|exact kQ|(refine bk ?_ ?_<;>intro _<;>try exact exo)|refine stq ?_|fail)
   refine aG.by aB T0 (λk:Nat=>⟨tmp 60 [(44,cQ l),(45,i64 l.length),(46,i64 (k:Int))],⟨0,[]⟩⟩)
    (λk=>k<=l.length/\∀ i (h:i<l.length),i<k->Dm l[i]) (λk=>l.length-k) 0 ⟨om,λ_ _ h=>om⟩ ?_ ?_
   .exact lq0
   intro k ⟨h3,h4⟩;by_cases hk:k<l.length
   .have htg:=ho.tag k hk;repeat' ((conv=>whnf);first|exact kQ|(refine bk ?_ ?_<;>intro _<;>try exact exo)|refine stq ?_|refine cd (CU sd) (λ_=>?_) (λ_=>?_)|fail)
    all_goals(conv=>whnf)
    all_goals first
     | exact aC.int (pE6 g1 g2 hk (by rintro(h|h)<;>contradiction)).symm
     | (refine⟨k+1,⟨om,ag om h4 (by first|exact .inl asm|exact .inr asm)⟩,om,?_⟩
        exact lq0)
   .repeat' ((conv=>whnf);first|exact kQ|(refine bk ?_ ?_<;>intro _<;>try exact exo)|refine stq ?_)
    all_goals(conv=>whnf)
    exact aC.int (pE0 g1 g2 (bh om h4)).symm
end
section
open Go Go.Am Classical
set_option maxRecDepth 100000
theorem xHD.rbX {p:Prop}(h:p:=by first|exact Rb.map (Res.eqs (kZ om) (zf _))|fail):p:=h
open xHD
variable [GT]
def FE (a b:Mpg):Prop:=a.frm=b.frm/\a.tag=b.tag
abbrev xY (l:List Mpg):List (D×D):=l.map λm=>(Ht m,boo true)
theorem oE {h:aA}{m:Mpg}:∀ {l:List Mpg}{i:Nat},∃ r,cV h (Ht m) (xY l) i=some r/\((∃ x,x∈l/\FE m x)/\(∃ j,r=some (j,boo true))\/(¬∃ x,x∈l/\FE m x)/\r=none)
 | [],i=>⟨none,rfl,.inr ⟨si,rfl⟩⟩
 | x::l,i=>by
  simp only[xY,List.map_cons,cV,bZ,gU,dg,if_true];by_cases h1:m.frm=x.frm
  .by_cases h2:m.tag=x.tag
   .rw[show(m.frm == x.frm&&m.tag == x.tag)=true from by simp[h1,h2]];exact⟨_,rfl,.inl ⟨⟨x,si,h1,h2⟩,i,rfl⟩⟩
   .rw[show(m.frm == x.frm&&m.tag == x.tag)=false from by simp[h2]];obtain⟨r,h3,h4⟩:=oE (h:=h) (m:=m) (l:=l) (i:=i+1);refine⟨r,h3,h4.imp (λ⟨⟨y,hy,hk⟩,hr⟩=>⟨⟨y,by simp[hy],hk⟩,hr⟩) (λ⟨hn,hr⟩=>⟨?_,hr⟩)⟩;rintro⟨y,hy,hk⟩;rcases List.mem_cons.1 hy with rfl|hy
    .exact h2 hk.2
    .exact hn ⟨y,hy,hk⟩
  .rw[show(m.frm == x.frm&&m.tag == x.tag)=false from by simp[h1]];obtain⟨r,h3,h4⟩:=oE (h:=h) (m:=m) (l:=l) (i:=i+1);refine⟨r,h3,h4.imp (λ⟨⟨y,hy,hk⟩,hr⟩=>⟨⟨y,by simp[hy],hk⟩,hr⟩) (λ⟨hn,hr⟩=>⟨?_,hr⟩)⟩;rintro⟨y,hy,hk⟩;rcases List.mem_cons.1 hy with rfl|hy
   .exact h1 hk.1
   .exact hn ⟨y,hy,hk⟩
theorem fT.key {h:aA}{m:Mpg}{l:List Mpg}{K:Option (Nat×D)->Prop}(yes:∀ i,(∃ x,x∈l/\FE m x)->K (some (i,boo true))) (no:(¬∃ x,x∈l/\FE m x)->K none):fT h (Ht m) (xY l) K:=by
 obtain⟨r,h1,h2⟩:=oE (h:=h) (m:=m) (l:=l) (i:=0);refine⟨r,h1,?_⟩;rcases h2 with⟨h3,j,rfl⟩|⟨h3,rfl⟩
 .exact yes j h3
 .exact no h3
theorem zf (l:List Mpg):∀ p∈xY l,aK p.1=true/\aK p.2=true:=by
 intro p hp;obtain⟨m,_,rfl⟩:=List.mem_map.1 hp;exact⟨rfl,rfl⟩
theorem dec_go {p:Prop}{inst:Decidable p}{F:¬p->Prop}{G:p->Prop}(hp:p) (go:G hp):Decidable.rec (motive:=λ_=>Prop) F G inst:=by
 cases inst with
 | isFalse h=>exact absurd hp h
 | isTrue h=>exact go
def Seen (l:List Mpg) (i:Nat) (h:i<l.length):Prop:=∃ x,x∈l.take i/\FE l[i] x
theorem xM {l:List Mpg}(ho:GL l):∃ e:Int,Pu Tryz.prog 315 [cQ l] (i64 e)/\(e=0↔MOk l):=by
 have hlen:=ho.len;by_cases h0:db l=0
 .have hp:Pu Tryz.prog 316 [cQ l] (i64 0):=h0▸Ak ho;by_cases ha:Asc l
  .refine⟨0,?_,λ_=>⟨h0,ha⟩,λ_=>rfl⟩;refine pv Tryz.func315 ?_;repeat' ((conv=>whnf);first|exact kQ|(refine bk ?_ ?_<;>intro _<;>try exact exo)|refine stq ?_|refine cp hp ?_|fail)
   refine aG.by aB T0 (λk:Nat=>⟨tmp 47 [(0,cQ l),(4,boo true),(5,i64 ((k+1:Nat):Int))],⟨0,[]⟩⟩)
    (λk=>k<=l.length) (λk=>l.length-k) 0 om ?_ ?_
   .exact lq0
   intro k h3;by_cases hk:k+1<l.length
   .have hb:=BS.2 (ha (k+1) hk om);simp only[Nat.add_sub_cancel] at hb;repeat' ((conv=>whnf);first|refine Idx.atS (sz:=3) (c:=iu) (by intro _;rfl) k om om ?_|refine Idx.atS (sz:=3) (c:=iu) (by intro _;rfl) (k+1) om om ?_|exact kQ|(refine bk ?_ ?_<;>intro _<;>try exact exo)|refine stq ?_|refine cp tw ?_|fail)
    all_goals(conv=>whnf)
    refine⟨k+1,om,om,?_⟩;exact lq0
   .repeat' ((conv=>whnf);first|exact kQ|(refine bk ?_ ?_<;>intro _<;>try exact exo)|refine stq ?_)
    all_goals(conv=>whnf)
    exact aC.same rfl rfl
  .refine⟨if ∃ i,∃ h:i<l.length,Seen l i h then 5 else 4,?_,λh=>by split at h<;>omega,λh=>absurd h.2 ha⟩;refine pv Tryz.func315 ?_;repeat' ((conv=>whnf);first|exact kQ|(refine bk ?_ ?_<;>intro _<;>try exact exo)|refine stq ?_|refine cp hp ?_|fail)
   refine aG.by2 aB T0 (λ(k:Nat) (b:Bool)=>⟨tmp 47 [(0,cQ l),(4,boo b),(5,i64 ((k+1:Nat):Int))],⟨0,[]⟩⟩)
    (λk b=>k<=l.length/\(b=true->∀ i (h:i<l.length),i<=k->∀ h0:i≠0,bef (l[i-1]'(by omega)) l[i])) (λk _=>l.length-k) 0 true ⟨om,λ_ i h hi h0=>om⟩ ?_ ?_
   .exact lq0
   intro k b ⟨h3,h4⟩;by_cases hk:k+1<l.length
   .repeat' ((conv=>whnf);first|refine Idx.atS (sz:=3) (c:=iu) (by intro _;rfl) k om om ?_|refine Idx.atS (sz:=3) (c:=iu) (by intro _;rfl) (k+1) om om ?_|exact kQ|(refine bk ?_ ?_<;>intro _<;>try exact exo)|refine stq ?_|refine cp tw ?_|fail)
    all_goals(conv=>whnf)
    .refine⟨k+1,false,⟨om,λh=>by cases h⟩,om,?_⟩;exact lq0
    .rename_i hc;refine⟨k+1,b,⟨om,λhb i h hi h0=>?_⟩,om,?_⟩
     .by_cases he:i=k+1
      .subst he;have:=BS.1 (Int.not_le.1 hc)
       simpa using this
      .exact h4 hb i h om h0
     exact lq0
   .have hbf:b=false:=by
     cases b with
     | false=>rfl
     | true=>exact absurd (λi h h0=>h4 rfl i h om h0) ha
    subst hbf;repeat' ((conv=>whnf);first|exact kQ|(refine bk ?_ ?_<;>intro _<;>try exact exo)|refine stq ?_|fail)
    refine aG.by aB T0 (λk:Nat=>⟨tmp 47 [(6,.map 0),(33,cQ l),(34,i64 l.length),(35,i64 (k:Int))],⟨1,[(0,.map (xY (l.take k)))]⟩⟩)
     (λk=>k<=l.length/\∀ i (h:i<l.length),i<k->¬Seen l i h) (λk=>l.length-k) 0 ⟨om,λ_ _ h=>om⟩ ?_ ?_
    .exact lq [(0,_)] []
    intro k ⟨h5,h6⟩;repeat' ((conv=>whnf);first|exact kQ|(refine bk ?_ ?_<;>intro _<;>try exact exo)|refine stq ?_|refine cp Hs ?_|refine dec_go (by kernel_rfl) ?_|(refine fT.key (λ_ _=>?_) (λ_=>?_)<;>(try contradiction)))
    all_goals(conv=>whnf)
    all_goals first
     | (rename_i hs;exact aC.int (by rw[if_pos ⟨k,om,hs⟩]))
     | exact aC.int (by rw[if_neg (λ⟨i,h,hs⟩=>h6 i h om hs)])
     | skip
    refine⟨k+1,⟨om,ag om h6 asm⟩,om,?_⟩;exact lq [(0,_)] []
 .have hp:=Ak ho;refine⟨db l,?_,λh=>absurd h h0,λh=>h.1⟩;refine pv Tryz.func315 ?_;repeat' ((conv=>whnf);first|exact kQ|(refine bk ?_ ?_<;>intro _<;>try exact exo)|refine stq ?_|refine cp hp ?_|fail)
  all_goals(conv=>whnf)
  exact aC.same rfl rfl
end
section
open Go Go.Am Classical
set_option maxRecDepth 100000
theorem xHF.rbX {p:Prop}(h:p:=by first|exact Rb.cells (Rds.same hnb) rfl|fail):p:=h
open xHF
variable [GT]
theorem kS:∀ {l:List D}(n:Nat),aF l=true->aF (l.drop n)=true
 | l,0,h=>by simpa using h
 | [],n+1,_=>by simp[aF]
 | d::l,n+1,h=>by simp only[aF,kC] at h;simpa using kS n h.2
def ah:List Str:=[[118,101,114,115,105,111,110],[99,97,116,101,103,111,114,121],[119,105,100,116,104],[115,99,114,105,112,116],[103,114,97,112,104,101,109,101],[119,111,114,100],[115,101,110,116,101,110,99,101],[108,105,110,101],[99,108,97,115,115,101,115],[100,101,99,111,109,112,111,115,105,116,105,111,110],[101,120,99,108,117,115,105,111,110,115],[108,111,119,101,114],[117,112,112,101,114],[116,105,116,108,101],[102,111,108,100],[99,97,115,101,100],[105,103,110,111,114,97,98,108,101],[115,116,97,114,116],[99,111,110,116,105,110,117,101],[109,101,100,105,97,108],[99,111,110,102,117,115,97,98,108,101]]
def iJ (k:Nat):Str:=ah.getD k []
def ftyp (k:Nat):TypeId:=([161,163,163,163,163,163,163,163,166,169,172,169,169,169,169,172,172,172,172,172,169]:List Nat).getD k 0
def fchk (k:Nat):FuncId:=([303,306,306,306,306,306,306,306,309,312,323,312,312,312,312,323,323,323,323,323,312]:List Nat).getD k 0
def foff (k:Nat):Nat:=([0,2,4,6,8,10,12,14,16,17,18,19,20,21,22,23,24,25,26,27,28]:List Nat).getD k 0
theorem H8:Pu Tryz.prog 75 [] (strs ah):=by
 refine pv Tryz.func75 ?_;repeat' ((conv=>whnf);first|exact kQ|(refine bk ?_ ?_<;>intro _<;>try exact exo)|refine stq ?_)
 all_goals(conv=>whnf)
 exact⟨Rd.frz rfl rfl (kD rfl) (Rds.eqs rfl rfl)⟩
set_option maxHeartbeats 8000000 in
theorem ce (d:Db):∀ k,k<21->Pu Tryz.prog 76 [.iptr (dbC d),.str (iJ k)] (.iface (ftyp k) (.agg [.iptr ((dbC d).drop (foff k))])):=by
 intro k hk;have hn:aK (.iface (ftyp k) (.agg [.iptr ((dbC d).drop (foff k))]))=true:=by simp[aK,aF,kS _ (cS d)]
 rcases(by omega:k=0\/k=1\/k=2\/k=3\/k=4\/k=5\/k=6\/k=7\/k=8\/k=9\/k=10\/k=11\/k=12\/k=13\/k=14\/k=15\/k=16\/k=17\/k=18\/k=19\/k=20) with rfl|rfl|rfl|rfl|rfl|rfl|rfl|rfl|rfl|rfl|rfl|rfl|rfl|rfl|rfl|rfl|rfl|rfl|rfl|rfl|rfl
 all_goals
  refine pv Tryz.func76 ?_;repeat' ((conv=>whnf);first|refine Br.strF rfl ?_|refine Br.strT rfl ?_|exact kQ|(refine bk ?_ ?_<;>intro _<;>try exact exo)|refine stq ?_)
  all_goals(conv=>whnf)
  exact⟨Rd.eqd rfl hn⟩
theorem De {a b:Int}{rest:List D}(hr:aF rest=true):Pu Tryz.prog 303 [.agg [.iptr (i64 a::i64 b::rest)]] (i64 (if uP a/\uP b then 0 else 1)):=by
 refine Pu.of_v aB T0 Tryz.func303 rfl rfl (by simp[aK,aF,hr]) ?_;repeat' ((conv=>whnf);first|exact kQ|(refine bk ?_ ?_<;>intro _<;>try exact exo)|refine stq ?_)
 refine aG.times aB T0 3 ?_;repeat' ((conv=>whnf);first|exact kQ|(refine bk ?_ ?_<;>intro _<;>try exact exo)|refine stq ?_)
 all_goals(conv=>whnf)
 all_goals first
  | exact aC.int (by rw[if_neg (by rintro⟨⟨_,_⟩,_,_⟩;omega)])
  | exact aC.int (by rw[if_pos ⟨⟨om,om⟩,om,om⟩])
theorem gX {p:Prp}{rest:List D}(hp:p.ok) (hr:aF rest=true):Pu Tryz.prog 306 [.agg [.iptr (strs p.names::cf p.spans::rest)]] (i64 (if PrV p then 0 else 11)):=by
 refine Pu.of_v aB T0 Tryz.func306 rfl rfl (by simp[aK,aF,hr,aY,aj]) ?_;repeat' ((conv=>whnf);first|exact kQ|(refine bk ?_ ?_<;>intro _<;>try exact exo)|refine stq ?_|refine cd (wg sd) (λ_=>?_) (λ_=>?_)|fail)
 all_goals(conv=>whnf)
 all_goals first
  | exact aC.int (by rename_i h;rw[if_pos h])
  | exact aC.int (by rename_i h;rw[if_neg h])
theorem iY {l:List Rng}{rest:List D}(hl:l.length<=12) (hr:aF rest=true):Pu Tryz.prog 323 [.agg [.iptr (aq l::rest)]] (i64 (if dA l then 0 else 11)):=by
 refine Pu.of_v aB T0 Tryz.func323 rfl rfl (by simp[aK,aF,hr,am]) ?_;repeat' ((conv=>whnf);first|exact kQ|(refine bk ?_ ?_<;>intro _<;>try exact exo)|refine stq ?_|refine cd (zC sd) (λ_=>?_) (λ_=>?_)|fail)
 all_goals(conv=>whnf)
 all_goals first
  | exact aC.int (by rename_i h;rw[if_pos h])
  | exact aC.int (by rename_i h;rw[if_neg h])
theorem iv {l:List Mpg}{rest:List D}{e:Int}(he:Pu Tryz.prog 315 [cQ l] (i64 e)) (hr:aF rest=true):Pu Tryz.prog 312 [.agg [.iptr (cQ l::rest)]] (i64 e):=by
 refine Pu.of_v aB T0 Tryz.func312 rfl rfl (by simp[aK,aF,hr,cC]) ?_;repeat' ((conv=>whnf);first|exact kQ|(refine bk ?_ ?_<;>intro _<;>try exact exo)|refine stq ?_|refine cp he ?_|fail)
 all_goals(conv=>whnf)
 exact aC.same rfl rfl
theorem Fx {l:List Spn}{rest:List D}(hl:l.length<=9223372036854775807) (hr:aF rest=true):Pu Tryz.prog 309 [.agg [.iptr (cf l::rest)]] (i64 (if ClV l then 0 else 11)):=by
 have hnb:aF [D.iptr (cf l::rest)]=true:=by simp[aF,aK,aj,hr]
 refine Pu.of_v aB T0 Tryz.func309 rfl rfl (by simp[aK,aF,hr,aj]) ?_;repeat' ((conv=>whnf);first|exact kQ|(refine bk ?_ ?_<;>intro _<;>try exact exo)|refine stq ?_)
 refine aG.by aB T0 (λk:Nat=>⟨tmp 72 [(1,.ptr 0 0),(9,cf l),(10,i64 l.length),(11,i64 (k:Int))],⟨1,[(0,.cells [.iptr (cf l::rest)] true)]⟩⟩)
  (λk=>k<=l.length/\∀ i (h:i<l.length),i<k->ClQ l i l[i]) (λk=>l.length-k) 0 ⟨om,λ_ _ h=>om⟩ ?_ ?_
 .exact lq [(0,_)] []
 intro k ⟨h3,h4⟩;have hall:l.length<=k->ClV l:=λh i hi=>h4 i hi om
 by_cases hk:k=0
 .subst hk;repeat' ((conv=>whnf);first|exact kQ|(refine bk ?_ ?_<;>intro _<;>try exact exo)|refine stq ?_)
  all_goals(conv=>whnf)
  all_goals first
   | exact aC.int (by rw[if_neg (λhc:ClV l=>by have:=(hc 0 om).1;omega)])
   | exact aC.int (by rw[if_pos (hall om)])
   | (refine⟨0+1,⟨om,ag om h4 ⟨om,λh=>absurd rfl h⟩⟩,om,?_⟩
      exact lq [(0,_)] [])
 .by_cases hk2:k<l.length
  .have h5:=h4 (k-1) om om;have h6:=h5.1;have e:l.getD (k-1) default=l[k-1]:=aI om;repeat' ((conv=>whnf);first|exact kQ|(refine bk ?_ ?_<;>intro _<;>try exact exo)|refine stq ?_|refine Idx.atS (by intro _;rfl) (k-1) om om ?_)
   all_goals(conv=>whnf)
   all_goals first
    | exact aC.int (by rw[if_neg (λhc:ClV l=>by have h7:=hc k om;have:=h7.1;have:=h7.2 hk;rw[e] at this;omega)])
    | (refine⟨k+1,⟨om,ag om h4 ⟨om,λ_=>by rw[e];omega⟩⟩,om,?_⟩
       exact lq [(0,_)] [])
  .repeat' ((conv=>whnf);first|exact kQ|(refine bk ?_ ?_<;>intro _<;>try exact exo)|refine stq ?_)
   all_goals(conv=>whnf)
   exact aC.int (by rw[if_pos (hall om)])
end
end Go.Proofs.YtpgcjpcenaefpaaGreatDoor
