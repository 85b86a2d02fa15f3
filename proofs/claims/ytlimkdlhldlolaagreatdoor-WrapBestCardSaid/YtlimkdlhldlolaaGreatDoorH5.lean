/-
  Contracts of functions over data: sets of code points made by the program.
-/
import Derived.Test.YtlimkdlhldlolaaGreatDoorG0
set_option linter.unusedSectionVars false
namespace Go.Proofs.YtlimkdlhldlolaaGreatDoor
open Go Go.Am Classical
set_option maxHeartbeats 8000000
set_option maxRecDepth 100000
section
theorem xH5.rdX {p:Prop}(h:p:=by first|exact Rd.same rfl|exact Rd.nil|exact Rd.sl' rfl hle'.symm hle'.symm|exact Rd.frzL bE bQ rfl rfl hsl0.symm rfl rfl|exact Rd.frz rfl rfl (kD rfl) (Rds.eqs rfl rfl)|exact Rd.sl' rfl sim sim|fail):p:=h
theorem xH5.rbX {p:Prop}(h:p:=by first|exact Rb.cells (Rds.eqs (aQ (c:=bm) (sz:=2) bE (x::xs) (⟨0,1114111⟩:Rng)) (aE bQ _)) rfl|exact Rb.cells (Rds.eqs (aQ (c:=bm) (sz:=2) bE (x::xs) (⟨0,l[k].hi⟩:Rng)) (aE bQ _)) rfl|exact Rb.cells (Rds.eqs (aQ (c:=bm) (sz:=2) bE (x::xs) (⟨l[k].lo,1114111⟩:Rng)) (aE bQ _)) rfl|exact Rb.cells (Rds.eqs (aQ (c:=bm) (sz:=2) bE (x::xs) (⟨l[k].lo,l[k].hi⟩:Rng)) (aE bQ _)) rfl|exact Rb.cells (Rds.eqs (aQ (c:=bm) (sz:=2) bE (y::ys) s[k]) (aE bQ _)) rfl|exact Rb.cells (Rds.eqs (by first|(rw[<-h5];rfl;done)|fail) (aE bQ _)) rfl|exact Rb.cells (Rds.eqs (by first|(rw[e3];done)|fail) (aE bQ _)) rfl|exact Rb.cells (Rds.eqs (by first|(rw[<-e3];done)|fail) (aE bQ _)) rfl|exact Rb.cells (Rds.eqs (by first|(rw[he];done)|fail) (aE bQ _)) rfl|fail):p:=h
open xH5
variable [GT]
theorem bE (r:Rng):(bm r).length=2:=rfl
theorem bQ (r:Rng):aF (bm r)=true:=rfl
abbrev sK (l:List Rng):D:=.agg [ax l]
theorem Or_c {l:List Int}(hl:l.length<=1000):Pu Tryz.prog 310 [aC l] (i64 (gx l)):=by
 refine pv Tryz.func310 ?_;repeat' ((conv=>whnf);first|exact kQ|(refine bk ?_ ?_<;>intro _<;>try exact exo)|refine stq ?_)
 refine aG.by aB T0 (λk:Nat=>⟨tmp 18 [(3,i64 0),(6,aC l),(7,i64 l.length),(8,i64 (k:Int))],⟨0,[]⟩⟩)
  (λk=>k<=l.length/\∀ i (h:i<l.length),i<k->l[i]=0) (λk=>l.length-k) 0 ⟨om,λ_ _ h=>om⟩ ?_ ?_
 .exact lq0
 intro k ⟨h3,h4⟩;repeat' ((conv=>whnf);first|exact kQ|(refine bk ?_ ?_<;>intro _<;>try exact exo)|refine stq ?_)
 all_goals(conv=>whnf)
 all_goals first
  | exact aD.int (vV om h4 asm).symm
  | exact aD.int (lQ.2 (bt om h4)).symm
  | (refine⟨k+1,⟨om,aj om h4 om⟩,om,?_⟩
     exact lq0)
theorem Hr {a b:Rng}:Cb a b=gx [iB a.lo b.lo,iB a.hi b.hi]:=by
 unfold Cb iB gx gx gx;repeat' split
 all_goals omega
theorem ordR_c {a b:Rng}:Pu Tryz.prog 319 [.agg (bm a),.agg (bm b)] (i64 (Cb a b)):=by
 refine pv Tryz.func319 ?_;repeat' ((conv=>whnf);first|exact kQ|(refine bk ?_ ?_<;>intro _<;>try exact exo)|refine stq ?_|refine ac.byM (id:=1) aB T0 [0,1,0,4,15,0,32,0,128,511,1023,2047,4095] (by kernel_rfl) ?_|refine CM.pu jc ?_|refine Chk.mk ⟨_,rfl⟩ ?_|refine Chk.mk (by intro h;simp at h;simp[h]) ?_|(refine CM.w ?_;refine Cll.emb (Or_c (l:=[iB a.lo b.lo,iB a.hi b.hi]) si ⟨0,[]⟩) [] [13] (i64 (gx [iB a.lo b.lo,iB a.hi b.hi])) [] [(0,.cells (bm a) true),(1,.cells (bm b) true)] rfl cO bxA rdA bxA reA ?_)|fail)
 (conv=>whnf)
 exact aD.int Hr.symm
abbrev GJ:D:=.fn (.func 319) [] []
theorem IQ {l:List Rng}(hl:l.length<=12) (hn:l≠[]):AC1 Tryz.prog 321 [.sl 0 0 l.length l.length 2 false,i64 0,i64 l.length,GJ] ⟨1,[(0,.cells (l.flatMap bm) false)]⟩ (.tup []) ⟨4,[(0,.cells ((hU ltR zR l).flatMap bm) false)]⟩:=by
 have h0:0<l.length:=List.length_pos_iff.2 hn;refine AC1.of_vl aB T0 Tryz.func321 rfl rfl ?_;repeat' ((conv=>whnf);first|exact kQ|(refine bk ?_ ?_<;>intro _<;>try exact exo)|refine stq ?_)
 refine aG.by aB T0 (λi:Nat=>⟨tmp 53 [(0,.sl 0 0 l.length l.length 2 false),(1,i64 0),(2,i64 l.length),(3,GJ),(8,i64 ((i+1:Nat):Int))],⟨1,[(0,.cells ((oI ltR zR l i).flatMap bm) false)]⟩⟩)
  (λi=>i<l.length) (λi=>l.length-i) 0 h0 ?_ ?_
 .exact lq0
 intro i h1;by_cases h2:i+1<l.length
 .repeat' ((conv=>whnf);first|exact kQ|(refine bk ?_ ?_<;>intro _<;>try exact exo)|refine stq ?_|fail)
  refine aG.by2 aB T0 (λ(j:Nat) (cur:List Rng)=>⟨tmp 53 [(0,.sl 0 0 l.length l.length 2 false),(1,i64 0),(2,i64 l.length),(3,GJ),(8,i64 ((i+1:Nat):Int)),(9,i64 (j:Int))],⟨1,[(0,.cells (cur.flatMap bm) false)]⟩⟩)
   (λj cur=>j<l.length/\cur.length=l.length/\vP ltR zR cur j=oI ltR zR l (i+1)) (λj _=>j) (i+1) (oI ltR zR l i) ⟨h2,si,rfl⟩ ?_ ?_
  .exact lq0
  intro j cur ⟨h3,h4,h5⟩;cases j with
  | zero=>
   repeat' ((conv=>whnf);first|exact kQ|(refine bk ?_ ?_<;>intro _<;>try exact exo)|refine stq ?_|refine ac.by (id:=4) aB T0 [0,0,3,7,15,15,15,111,239,15,15,1039,3599,7695,16383,32767,65535] (by kernel_rfl) ?_|fail)
   (conv=>whnf)
   refine⟨i+1,h2,om,?_⟩;exact lq0
  | succ j=>
   have e1:cur.getD j zR=cur[j]:=aH om;have e2:cur.getD (j+1) zR=cur[j+1]:=aH om;repeat' ((conv=>whnf);first|exact kQ|(refine bk ?_ ?_<;>intro _<;>try exact exo)|refine stq ?_|refine cp ordR_c ?_|refine ac.by (id:=4) aB T0 [0,0,3,7,15,15,15,111,239,15,15,1039,3599,7695,16383,32767,65535] (by kernel_rfl) ?_|refine ac.by (id:=6) aB T0 [0,0,0,0,8,0,0,64,224,480,0,0,3072,7168,16355,32739,65535,131071] (by kernel_rfl) ?_|refine bT.at (j+1) om om ?_|refine bT.at j om om ?_|refine Get.flat bE (j+1) om om ?_|refine Get.flat bE j om om ?_|refine Put.flat bE (l:=cur) (j+1) (cur[j]'(by omega)) om om ?_|refine Put.flat bE (l:=cur.set (j+1) (cur[j]'(by omega))) j (cur[j+1]'(by omega)) om (by simp;omega) ?_|fail)
   all_goals(conv=>whnf)
   .have hlt:ltR cur[j+1] cur[j]=true:=decide_eq_true asm;have e3:uf zR cur j=(cur.set (j+1) (cur[j]'(by omega))).set j (cur[j+1]'(by omega)):=by rw[uf,e1,e2]
    refine⟨j,uf zR cur j,⟨om,by simp[h4],?_⟩,om,?_⟩
    .rw[<-h5];simp only[vP,e1,e2,hlt,if_true]
    exact lq0
   .have hlt:¬ltR cur[j+1] cur[j]=true:=by rw[ltR,decide_eq_true_eq];assumption
    have e3:cur=oI ltR zR l (i+1):=by rw[<-h5];simp only[vP,e1,e2,hlt];simp
    refine⟨i+1,h2,om,?_⟩;exact lq0
 .repeat' ((conv=>whnf);first|exact kQ|(refine bk ?_ ?_<;>intro _<;>try exact exo)|refine stq ?_|fail)
  (conv=>whnf)
  have e:hU ltR zR l=oI ltR zR l i:=by rw[hU,show l.length-1=i from om]
  exact⟨Or.inl rfl,rfl,by rw[e]⟩
theorem I7 {l:List Rng}(hl:l.length<=12) (hn:l≠[]):AC1 Tryz.prog 318 [.sl 0 0 l.length l.length 2 false,GJ] ⟨1,[(0,.cells (l.flatMap bm) false)]⟩ (.tup []) ⟨27,[(0,.cells ((hU ltR zR l).flatMap bm) false)]⟩:=by
 have hlen:Pu Tryz.prog 208 [.v (.int .u64 (IntKind.u64.wrap (l.length:Int)))] (i64 (([0,1,2,2,3,3,3,3,4,4,4,4,4]:List Int).getD l.length 0)):=by
  rw[show IntKind.u64.wrap (l.length:Int)=(l.length:Int) from by simp[IntKind.wrap,IntKind.bits,IntKind.signed];omega];exact B3 hl
 refine AC1.of_vl aB T0 Tryz.func318 rfl rfl ?_;repeat' ((conv=>whnf);first|exact kQ|(refine bk ?_ ?_<;>intro _<;>try exact exo)|refine stq ?_|refine cp hlen ?_|(apply Cll.inl aB T0 Tryz.func320 rfl rfl ?_;rotate_left)|exact⟨Or.inr rfl,rfl,rfl⟩|refine aG.times aB T0 1 ?_|refine Cll.emb (IQ hl hn) [(0,0)] [] (.tup []) [(0,.cells ((hU ltR zR l).flatMap bm) false)] [] rfl cO bxA rdA bxA reA ?_|fail)
 (conv=>whnf)
 exact⟨Or.inl rfl,rfl,rfl⟩
theorem Dh:Pu Tryz.prog 318 [aJ,GJ] (.tup []):=by
 have hlen:Pu Tryz.prog 208 [.v (.int .u64 (IntKind.u64.wrap (0:Int)))] (i64 0):=B3 (n:=0) om;refine pv Tryz.func318 ?_;repeat' ((conv=>whnf);first|exact kQ|(refine bk ?_ ?_<;>intro _<;>try exact exo)|refine stq ?_|refine cp hlen ?_|(apply Cll.inl aB T0 Tryz.func320 rfl rfl ?_;rotate_left)|(apply Cll.inl aB T0 Tryz.func321 rfl rfl ?_;rotate_left)|exact⟨Or.inr rfl,rfl,rfl⟩|exact⟨Or.inl rfl,rfl,rfl⟩|refine aG.times aB T0 1 ?_|fail)
 (conv=>whnf)
 exact aD.same rfl rfl
theorem uF {r:Rng}{a b:Int}(h1:a=max r.lo 0) (h2:b=min r.hi 1114111):jd r=⟨a,b⟩:=by rw[jd,h1,h2]
theorem dO {l:List Rng}{k:Nat}(h:k<l.length){a b:Int}(h1:a=max l[k].lo 0) (h2:b=min l[k].hi 1114111) (hab:a<=b):dF (l.take (k+1))=dF (l.take k)++[⟨a,b⟩]:=by
 rw[dF,bI h,List.map_append,List.filter_append,List.map_singleton,uF h1 h2,List.filter_cons_of_pos (by simpa using hab)];rfl
theorem eP {l:List Rng}{k:Nat}(h:k<l.length){a b:Int}(h1:a=max l[k].lo 0) (h2:b=min l[k].hi 1114111) (hab:¬a<=b):dF (l.take (k+1))=dF (l.take k):=by
 rw[dF,bI h,List.map_append,List.filter_append,List.map_singleton,uF h1 h2,List.filter_cons_of_neg (by simpa using hab),List.filter_nil,List.append_nil];rfl
theorem zf (l:List Rng):(dF l).length<=l.length:=Nat.le_trans (List.length_filter_le _ _) si
theorem CX {l:List Rng}{r:Rng}(h:r∈dF l):0<=r.hi/\r.hi<=1114111:=by
 simp only[dF,List.mem_filter,List.mem_map,decide_eq_true_eq] at h;obtain⟨⟨q,_,rfl⟩,h2⟩:=h;simp only[jd] at h2 ⊢;omega
theorem iY (y:Rng) (ys:List Rng) (m:Nat) (v:Rng):∃ y' ys',(y::ys).set m v=y' :: ys':=by cases m<;>exact⟨_,_,rfl⟩
theorem vL {o:List Rng}(h:0<o.length):o.getLast?=some (o[o.length-1]'(by omega)):=by rw[List.getLast?_eq_getElem?,List.getElem?_eq_getElem om]
theorem wd {o:List Rng}(h:0<o.length) (v:Rng):o.dropLast++[v]=o.set (o.length-1) v:=by
 obtain⟨q,y,rfl⟩:∃ q y,o=q++[y]:=⟨o.dropLast,o.getLast (by rintro rfl;simp at h),(List.dropLast_concat_getLast _).symm⟩;simp
theorem nG {o l:List Rng}{r:Rng}{hi:Int}(h:0<o.length) (hc:r.lo<=(o[o.length-1]'(by omega)).hi+1) (hh:hi=max (o[o.length-1]'(by omega)).hi r.hi):mrg o (r::l)=mrg (o.set (o.length-1) ⟨(o[o.length-1]'(by omega)).lo,hi⟩) l:=by
 rw[mrg,vL h];simp only;rw[if_pos hc,wd h,<-hh]
theorem BH {o l:List Rng}{r:Rng}(h:0<o.length) (hc:¬r.lo<=(o[o.length-1]'(by omega)).hi+1):mrg o (r::l)=mrg (o++[r]) l:=by
 rw[mrg,vL h];simp only;rw[if_neg hc]
theorem Gm {l:List Rng}(hl:l.length<=12):Pu Tryz.prog 317 [ax l] (sK (mkR l)):=by
 refine pv Tryz.func317 ?_;repeat' ((conv=>whnf);first|exact kQ|(refine bk ?_ ?_<;>intro _<;>try exact exo)|refine stq ?_)
 refine aG.by2 aB T0 (λ(k:Nat) (o:List Rng)=>⟨tmp 79 [(2,.ptr 0 0),(3,aP 1 2 o),(11,ax l),(12,i64 l.length),(13,i64 (k:Int))],⟨2,(0,.cells [aJ] true)::bS 1 bm o⟩⟩)
  (λk o=>k<=l.length/\o=dF (l.take k)) (λk _=>l.length-k) 0 [] ⟨om,rfl⟩ ?_ ?_
 .exact lq [(0,_)] []
 intro k o ⟨h3,h4⟩;have h5:o.length<=k:=by rw[h4];exact Nat.le_trans (zf _) (by simp;omega)
 by_cases hk:k<l.length
 .by_cases ha:l[k].lo<0
  .by_cases hb:1114111<l[k].hi
   .
    cases o with
    | nil=>
     repeat' ((conv=>whnf);first|exact kQ|(refine bk ?_ ?_<;>intro _<;>try exact exo)|refine stq ?_)
     all_goals(conv=>whnf)
     all_goals first
      | (refine⟨k+1,[],⟨om,by rw[eP hk (a:=0) (b:=1114111) om om om];exact h4⟩,om,?_⟩
         exact lq [(0,_)] [])
      | (refine⟨k+1,[⟨0,1114111⟩],⟨om,by rw[dO hk (a:=0) (b:=1114111) om om om,<-h4];rfl⟩,om,?_⟩
         exact lq [(0,_),(1,_)] [])
    | cons x xs=>
     have hlen:(x::xs).length<=12:=by omega
     repeat' ((conv=>whnf);first|exact kQ|(refine bk ?_ ?_<;>intro _<;>try exact exo)|refine stq ?_)
     all_goals(conv=>whnf)
     all_goals first
      | (refine⟨k+1,x::xs,⟨om,by rw[eP hk (a:=0) (b:=1114111) om om om];exact h4⟩,om,?_⟩
         exact lq [(0,_),(1,_)] [])
      | (refine⟨k+1,(x::xs)++[⟨0,1114111⟩],⟨om,by rw[dO hk (a:=0) (b:=1114111) om om om,<-h4]⟩,om,?_⟩
         exact lq [(0,_),(1,_)] [])
   .
    cases o with
    | nil=>
     repeat' ((conv=>whnf);first|exact kQ|(refine bk ?_ ?_<;>intro _<;>try exact exo)|refine stq ?_)
     all_goals(conv=>whnf)
     all_goals first
      | (refine⟨k+1,[],⟨om,by rw[eP hk (a:=0) (b:=l[k].hi) om om om];exact h4⟩,om,?_⟩
         exact lq [(0,_)] [])
      | (refine⟨k+1,[⟨0,l[k].hi⟩],⟨om,by rw[dO hk (a:=0) (b:=l[k].hi) om om om,<-h4];rfl⟩,om,?_⟩
         exact lq [(0,_),(1,_)] [])
    | cons x xs=>
     have hlen:(x::xs).length<=12:=by omega
     repeat' ((conv=>whnf);first|exact kQ|(refine bk ?_ ?_<;>intro _<;>try exact exo)|refine stq ?_)
     all_goals(conv=>whnf)
     all_goals first
      | (refine⟨k+1,x::xs,⟨om,by rw[eP hk (a:=0) (b:=l[k].hi) om om om];exact h4⟩,om,?_⟩
         exact lq [(0,_),(1,_)] [])
      | (refine⟨k+1,(x::xs)++[⟨0,l[k].hi⟩],⟨om,by rw[dO hk (a:=0) (b:=l[k].hi) om om om,<-h4]⟩,om,?_⟩
         exact lq [(0,_),(1,_)] [])
  .by_cases hb:1114111<l[k].hi
   .
    cases o with
    | nil=>
     repeat' ((conv=>whnf);first|exact kQ|(refine bk ?_ ?_<;>intro _<;>try exact exo)|refine stq ?_)
     all_goals(conv=>whnf)
     all_goals first
      | (refine⟨k+1,[],⟨om,by rw[eP hk (a:=l[k].lo) (b:=1114111) om om om];exact h4⟩,om,?_⟩
         exact lq [(0,_)] [])
      | (refine⟨k+1,[⟨l[k].lo,1114111⟩],⟨om,by rw[dO hk (a:=l[k].lo) (b:=1114111) om om om,<-h4];rfl⟩,om,?_⟩
         exact lq [(0,_),(1,_)] [])
    | cons x xs=>
     have hlen:(x::xs).length<=12:=by omega
     repeat' ((conv=>whnf);first|exact kQ|(refine bk ?_ ?_<;>intro _<;>try exact exo)|refine stq ?_)
     all_goals(conv=>whnf)
     all_goals first
      | (refine⟨k+1,x::xs,⟨om,by rw[eP hk (a:=l[k].lo) (b:=1114111) om om om];exact h4⟩,om,?_⟩
         exact lq [(0,_),(1,_)] [])
      | (refine⟨k+1,(x::xs)++[⟨l[k].lo,1114111⟩],⟨om,by rw[dO hk (a:=l[k].lo) (b:=1114111) om om om,<-h4]⟩,om,?_⟩
         exact lq [(0,_),(1,_)] [])
   .
    cases o with
    | nil=>
     repeat' ((conv=>whnf);first|exact kQ|(refine bk ?_ ?_<;>intro _<;>try exact exo)|refine stq ?_)
     all_goals(conv=>whnf)
     all_goals first
      | (refine⟨k+1,[],⟨om,by rw[eP hk (a:=l[k].lo) (b:=l[k].hi) om om om];exact h4⟩,om,?_⟩
         exact lq [(0,_)] [])
      | (refine⟨k+1,[⟨l[k].lo,l[k].hi⟩],⟨om,by rw[dO hk (a:=l[k].lo) (b:=l[k].hi) om om om,<-h4];rfl⟩,om,?_⟩
         exact lq [(0,_),(1,_)] [])
    | cons x xs=>
     have hlen:(x::xs).length<=12:=by omega
     repeat' ((conv=>whnf);first|exact kQ|(refine bk ?_ ?_<;>intro _<;>try exact exo)|refine stq ?_)
     all_goals(conv=>whnf)
     all_goals first
      | (refine⟨k+1,x::xs,⟨om,by rw[eP hk (a:=l[k].lo) (b:=l[k].hi) om om om];exact h4⟩,om,?_⟩
         exact lq [(0,_),(1,_)] [])
      | (refine⟨k+1,(x::xs)++[⟨l[k].lo,l[k].hi⟩],⟨om,by rw[dO hk (a:=l[k].lo) (b:=l[k].hi) om om om,<-h4]⟩,om,?_⟩
         exact lq [(0,_),(1,_)] [])
 .have ho:o=dF l:=by rw[h4,kE om]
  cases o with
  | nil=>
   have hs0:hU ltR zR (dF l)=[]:=by rw[<-ho];rfl
   have hend:mkR l=mrg [] (hU ltR zR (dF l)):=rfl;repeat' ((conv=>whnf);first|exact kQ|(refine bk ?_ ?_<;>intro _<;>try exact exo)|refine stq ?_|refine cp Dh ?_|fail)
   generalize hs:hU ltR zR (dF l)=s at *
   refine aG.by2 aB T0 (λ(k:Nat) (out:List Rng)=>⟨tmp 79 [(2,.ptr 0 0),(7,aP 1 2 out),(36,ax s),(37,i64 s.length),(38,i64 (k:Int))],⟨2,(0,.cells [aJ] true)::bS 1 bm out⟩⟩)
    (λk out=>((k<=s.length/\out.length<=k)/\∀ r,r∈out->0<=r.hi/\r.hi<=1114111)/\mrg [] s=mrg out (s.drop k)) (λk _=>s.length-k) 0 [] ⟨⟨⟨om,si⟩,si⟩,rfl⟩ ?_ ?_
   .subst hs0;exact lq [(0,_)] []
   have hsl:s.length<=12:=by rw[hs0];simp
   have hsb:∀ r,r∈s->0<=r.hi/\r.hi<=1114111:=by rw[hs0];simp
   intro k out ⟨⟨⟨h6,h7⟩,h9⟩,h8⟩;by_cases hk2:k<s.length
   .have hd:s.drop k=s[k]::s.drop (k+1):=kK hk2;cases out with
    | nil=>
     repeat' ((conv=>whnf);first|exact kQ|(refine bk ?_ ?_<;>intro _<;>try exact exo)|refine stq ?_)
     (conv=>whnf)
     refine⟨k+1,[s[k]],⟨⟨⟨om,si⟩,λr hr=>by simp only[List.mem_singleton] at hr;subst hr;exact hsb _ (kM hk2)⟩,by rw[h8,hd];rfl⟩,om,?_⟩;exact lq [(0,_),(1,_)] []
    | cons y ys=>
     have hpos:0<(y::ys).length:=by simp
     have hle:(y::ys).length<=12:=by omega
     have hb1:=h9 _ (kM (show(y::ys).length-1<(y::ys).length by omega));have hb2:=hsb _ (kM hk2);repeat' ((conv=>whnf);first|refine Get.flat1 bE ((y::ys).length-1) 1 (by dsimp only;omega) om rfl ?_|exact kQ|(refine bk ?_ ?_<;>intro _<;>try exact exo)|refine stq ?_|refine ac.by (id:=16) aB T0 [0,0,2,0,0,16,56,120,248,0,512,2040,4095,8191,16383] (by kernel_rfl) ?_|refine bT.at ((y::ys).length-1) om om ?_|refine Put.flat1 bE ((y::ys).length-1) 1 ⟨((y::ys)[(y::ys).length-1]'(by omega)).lo,s[k].hi⟩ (by dsimp only;omega) om om rfl ?_|refine Put.flat1 bE ((y::ys).length-1) 1 ⟨((y::ys)[(y::ys).length-1]'(by omega)).lo,((y::ys)[(y::ys).length-1]'(by omega)).hi⟩ (by dsimp only;omega) om om rfl ?_|fail)
     all_goals(conv=>whnf)
     all_goals first
      | (have hj:=nG (l:=s.drop (k+1)) hpos asm (hi:=s[k].hi) om
         obtain⟨y',ys',he⟩:=iY y ys ((y::ys).length-1) ⟨((y::ys)[(y::ys).length-1]'(by omega)).lo,s[k].hi⟩;have hle':(y' :: ys').length=(y::ys).length:=by rw[<-he];simp
         refine⟨k+1,y' :: ys',⟨⟨⟨om,om⟩,λr hr=>by rw[<-he] at hr;rcases List.mem_or_eq_of_mem_set hr with hr|rfl<;>first|exact h9 r hr|exact hb2⟩,by rw[h8,hd,hj,he]⟩,om,?_⟩
         exact lq [(0,_),(1,_)] [])
      | (have hj:=nG (l:=s.drop (k+1)) hpos asm (hi:=((y::ys)[(y::ys).length-1]'(by omega)).hi) om
         obtain⟨y',ys',he⟩:=iY y ys ((y::ys).length-1) ⟨((y::ys)[(y::ys).length-1]'(by omega)).lo,((y::ys)[(y::ys).length-1]'(by omega)).hi⟩;have hle':(y' :: ys').length=(y::ys).length:=by rw[<-he];simp
         refine⟨k+1,y' :: ys',⟨⟨⟨om,om⟩,λr hr=>by rw[<-he] at hr;rcases List.mem_or_eq_of_mem_set hr with hr|rfl<;>first|exact h9 r hr|exact hb1⟩,by rw[h8,hd,hj,he]⟩,om,?_⟩
         exact lq [(0,_),(1,_)] [])
      | (refine⟨k+1,(y::ys)++[s[k]],⟨⟨⟨om,by rw[kG];simp only[List.length_singleton];omega⟩,λr hr=>by rcases List.mem_append.1 hr with hr|hr<;>first|exact h9 r hr|exact(List.mem_singleton.1 hr)▸hb2⟩,by rw[h8,hd,BH hpos asm]⟩,om,?_⟩
         exact lq [(0,_),(1,_)] [])
   .have he:mrg [] s=out:=by rw[h8,List.drop_of_length_le om];rfl
    rw[hend,he];cases out with
    | nil=>
     repeat' ((conv=>whnf);first|exact kQ|(refine bk ?_ ?_<;>intro _<;>try exact exo)|refine stq ?_)
     (conv=>whnf)
     exact⟨.agg (.cons .nil .nil)⟩
    | cons y ys=>
     repeat' ((conv=>whnf);first|exact kQ|(refine bk ?_ ?_<;>intro _<;>try exact exo)|refine stq ?_)
     (conv=>whnf)
     exact⟨.agg (.cons (Rd.frzL bE bQ rfl rfl rfl rfl rfl) .nil)⟩
  | cons x xs=>
   have hlen:(x::xs).length<=12:=by omega
   have hend:mkR l=mrg [] (hU ltR zR (x::xs)):=by rw[ho];rfl
   have hsl0:(hU ltR zR (x::xs)).length=(x::xs).length:=srtG_len ..;repeat' ((conv=>whnf);first|exact kQ|(refine bk ?_ ?_<;>intro _<;>try exact exo)|refine stq ?_|refine Cll.emb (I7 (l:=x::xs) hlen si) [(0,1)] [] (.tup []) [(1,.cells ((hU ltR zR (x::xs)).flatMap bm) false)] [(0,.cells [aJ] true)] rfl cO bxA rdA bxA reA ?_|fail)
   have hsb0:∀ r,r∈hU ltR zR (x::xs)->0<=r.hi/\r.hi<=1114111:=λr hr=>CX (by rw[<-ho];exact(qP _).1.mem_iff.1 hr)
   generalize hs:hU ltR zR (x::xs)=s at *
   refine aG.by2 aB T0 (λ(k:Nat) (out:List Rng)=>⟨tmp 79 [(2,.ptr 0 0),(7,aP 1 2 out),(36,ax s),(37,i64 s.length),(38,i64 (k:Int))],⟨2,(0,.cells [aJ] true)::bS 1 bm out⟩⟩)
    (λk out=>((k<=s.length/\out.length<=k)/\∀ r,r∈out->0<=r.hi/\r.hi<=1114111)/\mrg [] s=mrg out (s.drop k)) (λk _=>s.length-k) 0 [] ⟨⟨⟨om,si⟩,si⟩,rfl⟩ ?_ ?_
   .exact lq [(0,_)] [1]
   have hsl:s.length<=12:=om;have hsb:=hsb0;intro k out ⟨⟨⟨h6,h7⟩,h9⟩,h8⟩;by_cases hk2:k<s.length
   .have hd:s.drop k=s[k]::s.drop (k+1):=kK hk2;cases out with
    | nil=>
     repeat' ((conv=>whnf);first|exact kQ|(refine bk ?_ ?_<;>intro _<;>try exact exo)|refine stq ?_)
     (conv=>whnf)
     refine⟨k+1,[s[k]],⟨⟨⟨om,si⟩,λr hr=>by simp only[List.mem_singleton] at hr;subst hr;exact hsb _ (kM hk2)⟩,by rw[h8,hd];rfl⟩,om,?_⟩;exact lq [(0,_),(1,_)] []
    | cons y ys=>
     have hpos:0<(y::ys).length:=by simp
     have hle:(y::ys).length<=12:=by omega
     have hb1:=h9 _ (kM (show(y::ys).length-1<(y::ys).length by omega));have hb2:=hsb _ (kM hk2);repeat' ((conv=>whnf);first|refine Get.flat1 bE ((y::ys).length-1) 1 (by dsimp only;omega) om rfl ?_|exact kQ|(refine bk ?_ ?_<;>intro _<;>try exact exo)|refine stq ?_|refine ac.by (id:=16) aB T0 [0,0,2,0,0,16,56,120,248,0,512,2040,4095,8191,16383] (by kernel_rfl) ?_|refine bT.at ((y::ys).length-1) om om ?_|refine Put.flat1 bE ((y::ys).length-1) 1 ⟨((y::ys)[(y::ys).length-1]'(by omega)).lo,s[k].hi⟩ (by dsimp only;omega) om om rfl ?_|refine Put.flat1 bE ((y::ys).length-1) 1 ⟨((y::ys)[(y::ys).length-1]'(by omega)).lo,((y::ys)[(y::ys).length-1]'(by omega)).hi⟩ (by dsimp only;omega) om om rfl ?_|fail)
     all_goals(conv=>whnf)
     all_goals first
      | (have hj:=nG (l:=s.drop (k+1)) hpos asm (hi:=s[k].hi) om
         obtain⟨y',ys',he⟩:=iY y ys ((y::ys).length-1) ⟨((y::ys)[(y::ys).length-1]'(by omega)).lo,s[k].hi⟩;have hle':(y' :: ys').length=(y::ys).length:=by rw[<-he];simp
         refine⟨k+1,y' :: ys',⟨⟨⟨om,om⟩,λr hr=>by rw[<-he] at hr;rcases List.mem_or_eq_of_mem_set hr with hr|rfl<;>first|exact h9 r hr|exact hb2⟩,by rw[h8,hd,hj,he]⟩,om,?_⟩
         exact lq [(0,_),(1,_)] [])
      | (have hj:=nG (l:=s.drop (k+1)) hpos asm (hi:=((y::ys)[(y::ys).length-1]'(by omega)).hi) om
         obtain⟨y',ys',he⟩:=iY y ys ((y::ys).length-1) ⟨((y::ys)[(y::ys).length-1]'(by omega)).lo,((y::ys)[(y::ys).length-1]'(by omega)).hi⟩;have hle':(y' :: ys').length=(y::ys).length:=by rw[<-he];simp
         refine⟨k+1,y' :: ys',⟨⟨⟨om,om⟩,λr hr=>by rw[<-he] at hr;rcases List.mem_or_eq_of_mem_set hr with hr|rfl<;>first|exact h9 r hr|exact hb1⟩,by rw[h8,hd,hj,he]⟩,om,?_⟩
         exact lq [(0,_),(1,_)] [])
      | (refine⟨k+1,(y::ys)++[s[k]],⟨⟨⟨om,by rw[kG];simp only[List.length_singleton];omega⟩,λr hr=>by rcases List.mem_append.1 hr with hr|hr<;>first|exact h9 r hr|exact(List.mem_singleton.1 hr)▸hb2⟩,by rw[h8,hd,BH hpos asm]⟩,om,?_⟩
         exact lq [(0,_),(1,_)] [])
   .have he:mrg [] s=out:=by rw[h8,List.drop_of_length_le om];rfl
    rw[hend,he];cases out with
    | nil=>
     repeat' ((conv=>whnf);first|exact kQ|(refine bk ?_ ?_<;>intro _<;>try exact exo)|refine stq ?_)
     (conv=>whnf)
     exact⟨.agg (.cons .nil .nil)⟩
    | cons y ys=>
     repeat' ((conv=>whnf);first|exact kQ|(refine bk ?_ ?_<;>intro _<;>try exact exo)|refine stq ?_)
     (conv=>whnf)
     exact⟨.agg (.cons (Rd.frzL bE bQ rfl rfl rfl rfl rfl) .nil)⟩
end
section
variable [GT]
theorem zS {l:List Rng}(hl:l.length<=12):Pu Tryz.prog 316 [sK l] (boo (decide (dB l))):=by
 have hm:=H1 (l:=l);refine pv Tryz.func316 ?_;by_cases hlen:l.length=(mkR l).length
 .repeat' ((conv=>whnf);first|exact kQ|(refine bk ?_ ?_<;>intro _<;>try exact exo)|refine stq ?_|refine cp (Gm sd) ?_|fail)
  refine aG.by aB T0 (λk:Nat=>⟨tmp 32 [(1,.ptr 0 0),(17,ax (mkR l)),(18,i64 l.length),(19,i64 (k:Int))],⟨1,[(0,.cells [ax l] true)]⟩⟩)
   (λk=>k<=l.length/\∀ i (h:i<l.length),i<k->l[i]=(mkR l)[i]'(by omega)) (λk=>l.length-k) 0 ⟨om,λ_ _ h=>om⟩ ?_ ?_
  .exact lq [(0,_)] []
  intro k ⟨h3,h4⟩;by_cases hk:k<l.length
  .have hk':k<(mkR l).length:=by omega
   by_cases he:(mkR l)[k]=l[k]
   .repeat' ((conv=>whnf);first|exact kQ|(refine bk ?_ ?_<;>intro _<;>try exact exo)|refine stq ?_|refine ac.by aB T0 [0,0,2,0,14,30,63] (by kernel_rfl) ?_|refine Idx.atS (sz:=2) (c:=bm) (λ_=>rfl) k om om ?_|(split<;>rename_i heq<;>rw[he] at heq<;>first|(obtain rfl:=Option.some.inj (oC.symm.trans heq))|exact absurd (oC.symm.trans heq) si))
    (conv=>whnf)
    refine⟨k+1,⟨om,aj om h4 he.symm⟩,om,?_⟩;exact lq [(0,_)] []
   .repeat' ((conv=>whnf);first|exact kQ|(refine bk ?_ ?_<;>intro _<;>try exact exo)|refine stq ?_|refine ac.by aB T0 [0,0,2,0,14,30,63] (by kernel_rfl) ?_|refine Idx.atS (sz:=2) (c:=bm) (λ_=>rfl) k om om ?_|(split<;>rename_i heq<;>first|(obtain rfl:=Option.some.inj ((pW he).symm.trans heq))|exact absurd ((pW he).symm.trans heq) si))
    (conv=>whnf)
    exact aD.no (λhc=>he (List.getElem_of_eq (hm.2 hc).symm om))
  .repeat' ((conv=>whnf);first|exact kQ|(refine bk ?_ ?_<;>intro _<;>try exact exo)|refine stq ?_)
   (conv=>whnf)
   exact aD.yes (hm.1 (List.ext_getElem hlen λi h1 h2=>h4 i h1 om))
 .repeat' ((conv=>whnf);first|exact kQ|(refine bk ?_ ?_<;>intro _<;>try exact exo)|refine stq ?_|refine cp (Gm sd) ?_|fail)
  (conv=>whnf)
  exact aD.no (λhc=>hlen (congrArg List.length (hm.2 hc)))
end
section
theorem xHC.rdX {p:Prop}(h:p:=by first|exact Rd.frz rfl rfl (kD rfl) (Rds.eqs rfl rfl)|fail):p:=h
open xHC
variable [GT]
theorem Ck {s:Str}(hs:s.length<=9223372036854775807):Pu Tryz.prog 309 [.str s] (boo (decide (mN s))):=by
 refine pv Tryz.func309 ?_;repeat' ((conv=>whnf);first|exact kQ|(refine bk ?_ ?_<;>intro _<;>try exact exo)|refine stq ?_)
 all_goals(conv=>whnf)
 all_goals first
  | exact aD.no (λhc=>hc.1 asm)
  | exact aD.no (λhc=>by have:=hc.2.1;omega)
  | skip
 refine aG.by aB T0 (λk:Nat=>⟨tmp 51 [(0,.str s),(14,i64 s.length),(15,i64 (k:Int))],⟨0,[]⟩⟩) (λk=>k<=s.length/\∀ i (h:i<s.length),i<k->wb (s[i].toNat:Int)) (λk=>s.length-k) 0 ⟨om,λ_ _ h=>om⟩ ?_ ?_
 .exact lq0
 intro k ⟨h1,h2⟩;repeat' ((conv=>whnf);first|exact kQ|(refine bk ?_ ?_<;>intro _<;>try exact exo)|refine stq ?_)
 all_goals(conv=>whnf)
 all_goals first
  | exact aD.no (λhc=>absurd (hc.2.2 k om) (by unfold wb;omega))
  | exact aD.yes ⟨asm,om,bt om h2⟩
  | (refine⟨k+1,⟨om,aj om h2 (by unfold wb;omega)⟩,om,?_⟩
     exact lq0)
theorem Fd {x:Str}:Pu Tryz.prog 312 [.str x] (boo false):=by
 refine pv Tryz.func312 ?_;repeat' ((conv=>whnf);first|exact kQ|(refine bk ?_ ?_<;>intro _<;>try exact exo)|refine stq ?_)
 all_goals(conv=>whnf)
 all_goals first
  | exact aD.same rfl rfl
  | (exfalso;rename_i h;exact h rfl)
theorem cmpS_c {x y:Str}:Pu Tryz.prog 311 [.str x,.str y] (i64 (vZ x y)):=by
 refine pv Tryz.func311 ?_;repeat' ((conv=>whnf);first|exact kQ|(refine bk ?_ ?_<;>intro _<;>try exact exo)|refine stq ?_|refine cp Fd ?_|fail)
 all_goals(conv=>whnf)
 all_goals first
  | exact aD.int (by rename_i h;rw[vZ,if_pos h])
  | exact aD.int (by rename_i h1 h2;rw[vZ,if_neg h1,if_pos (h2.resolve_left h1)])
  | exact aD.int (by rename_i h1 h2;rw[vZ,if_neg h1,if_neg (λe=>h2 (.inr e))])
theorem Ir {a b:Mpg}:GI a b=gx [iB a.frm b.frm,vZ a.tag b.tag]:=by
 unfold GI gx gx gx;repeat' split
 all_goals first|rfl|omega
theorem uC {a b:Mpg}:Pu Tryz.prog 307 [.agg (iu a),.agg (iu b)] (i64 (GI a b)):=by
 refine pv Tryz.func307 ?_;repeat' ((conv=>whnf);first|exact kQ|(refine bk ?_ ?_<;>intro _<;>try exact exo)|refine stq ?_|refine ac.byM (id:=1) aB T0 [0,1,0,4,15,0,32,0,128,511,1023,2047,4095] (by kernel_rfl) ?_|refine CM.pu jc ?_|refine CM.pu cmpS_c ?_|refine Chk.mk ⟨_,rfl⟩ ?_|(refine CM.w ?_;refine Cll.emb (Or_c (l:=[iB a.frm b.frm,vZ a.tag b.tag]) si ⟨0,[]⟩) [] [13] (i64 (gx [iB a.frm b.frm,vZ a.tag b.tag])) [] [(0,.cells (iu a) true),(1,.cells (iu b) true)] rfl cO bxA rdA bxA reA ?_)|fail)
 (conv=>whnf)
 exact aD.int Ir.symm
abbrev IO (m:Mpg):D:=.agg [i64 m.frm,.str m.tag]
theorem IM {m:Mpg}:Pu Tryz.prog 308 [.agg (iu m)] (IO m):=by
 refine pv Tryz.func308 ?_;repeat' ((conv=>whnf);first|exact kQ|(refine bk ?_ ?_<;>intro _<;>try exact exo)|refine stq ?_)
 (conv=>whnf)
 exact aD.same rfl rfl
structure Gk (l:List Mpg):Prop where
 len:l.length<=9223372036854775806
 to:∀ i (h:i<l.length),l[i].to.length<=9223372036854775807
 tag:∀ i (h:i<l.length),l[i].tag.length<=9223372036854775807
theorem pE1 {l:List Mpg}{k:Nat}(hk:k<l.length) (h:¬kr l[k]):dg l=1:=by rw[dg,if_neg (λhc=>h (hc k hk))]
theorem pE2 {l:List Mpg}(h1:∀ i (h:i<l.length),kr l[i]){k:Nat}(hk:k<l.length) (h:¬l[k].to.length<=64):dg l=2:=by rw[dg,if_pos h1,if_neg (λhc=>h (hc k hk))]
theorem pE6 {l:List Mpg}(h1:∀ i (h:i<l.length),kr l[i]) (h2:∀ i (h:i<l.length),l[i].to.length<=64){k:Nat}(hk:k<l.length) (h:¬D8 l[k]):dg l=6:=by rw[dg,if_pos h1,if_pos h2,if_neg (λhc=>h (hc k hk))]
theorem pE0 {l:List Mpg}(h1:∀ i (h:i<l.length),kr l[i]) (h2:∀ i (h:i<l.length),l[i].to.length<=64) (h3:∀ i (h:i<l.length),D8 l[i]):dg l=0:=by rw[dg,if_pos h1,if_pos h2,if_pos h3]
theorem A0 {l:List Mpg}(ho:Gk l):Pu Tryz.prog 306 [cT l] (i64 (dg l)):=by
 have hlen:=ho.len;refine pv Tryz.func306 ?_;repeat' ((conv=>whnf);first|exact kQ|(refine bk ?_ ?_<;>intro _<;>try exact exo)|refine stq ?_)
 refine aG.by aB T0 (λk:Nat=>⟨tmp 60 [(0,cT l),(11,cT l),(12,i64 l.length),(13,i64 (k:Int))],⟨0,[]⟩⟩)
  (λk=>k<=l.length/\∀ i (h:i<l.length),i<k->kr l[i]) (λk=>l.length-k) 0 ⟨om,λ_ _ h=>om⟩ ?_ ?_
 .exact lq0
 intro k ⟨h3,h4⟩;by_cases hk:k<l.length
 .have hto:=ho.to k hk;by_cases hf:cpQ l[k].frm
  .repeat' ((conv=>whnf);first|exact kQ|(refine bk ?_ ?_<;>intro _<;>try exact exo)|refine stq ?_|refine cd lV (λ_=>?_) (λ_=>?_)|fail)
   all_goals(conv=>whnf)
   all_goals first
    | (exfalso;rename_i h;exact h hf)
    | skip
   refine aG.by aB T0 (λj:Nat=>⟨tmp 60 [(0,cT l),(11,cT l),(12,i64 l.length),(13,i64 (k:Int)),(22,aC l[k].to),(23,i64 l[k].to.length),(24,i64 (j:Int))],⟨0,[]⟩⟩)
    (λj=>j<=l[k].to.length/\∀ i (h:i<l[k].to.length),i<j->cpQ l[k].to[i]) (λj=>l[k].to.length-j) 0 ⟨om,λ_ _ h=>om⟩ ?_ ?_
   .exact lq0
   intro j ⟨h5,h6⟩;repeat' ((conv=>whnf);first|exact kQ|(refine bk ?_ ?_<;>intro _<;>try exact exo)|refine stq ?_|refine cd lV (λ_=>?_) (λ_=>?_)|fail)
   all_goals(conv=>whnf)
   all_goals first
    | exact aD.int (pE1 hk λhc=>by rename_i h;exact h (hc.2 j om)).symm
    | (refine⟨j+1,⟨om,aj om h6 asm⟩,om,?_⟩
       exact lq0)
    | (refine⟨k+1,⟨om,aj om h4 ⟨hf,bt om h6⟩⟩,om,?_⟩
       exact lq0)
  .repeat' ((conv=>whnf);first|exact kQ|(refine bk ?_ ?_<;>intro _<;>try exact exo)|refine stq ?_|refine cd lV (λ_=>?_) (λ_=>?_)|fail)
   all_goals(conv=>whnf)
   all_goals first
    | (exfalso;rename_i h;exact hf h)
    | exact aD.int (pE1 hk λhc=>hf hc.1).symm
 .have g1:=bt (by omega:l.length<=k) h4;repeat' ((conv=>whnf);first|exact kQ|(refine bk ?_ ?_<;>intro _<;>try exact exo)|refine stq ?_|fail)
  refine aG.by aB T0 (λk:Nat=>⟨tmp 60 [(0,cT l),(33,cT l),(34,i64 l.length),(35,i64 (k:Int))],⟨0,[]⟩⟩)
   (λk=>k<=l.length/\∀ i (h:i<l.length),i<k->l[i].to.length<=64) (λk=>l.length-k) 0 ⟨om,λ_ _ h=>om⟩ ?_ ?_
  .exact lq0
  intro k ⟨h3,h4⟩;by_cases hk:k<l.length
  .have hto:=ho.to k hk;repeat' ((conv=>whnf);first|exact kQ|(refine bk ?_ ?_<;>intro _<;>try exact exo)|refine stq ?_)
   all_goals(conv=>whnf)
   all_goals first
    | exact aD.int (pE2 g1 hk om).symm
    | (refine⟨k+1,⟨om,aj om h4 om⟩,om,?_⟩
       exact lq0)
  .have g2:=bt (by omega:l.length<=k) h4;repeat' ((conv=>whnf);first|exact kQ|(refine bk ?_ ?_<;>intro _<;>try exact exo)|refine stq ?_|fail)
   refine aG.by aB T0 (λk:Nat=>⟨tmp 60 [(44,cT l),(45,i64 l.length),(46,i64 (k:Int))],⟨0,[]⟩⟩)
    (λk=>k<=l.length/\∀ i (h:i<l.length),i<k->D8 l[i]) (λk=>l.length-k) 0 ⟨om,λ_ _ h=>om⟩ ?_ ?_
   .exact lq0
   intro k ⟨h3,h4⟩;by_cases hk:k<l.length
   .have htg:=ho.tag k hk;repeat' ((conv=>whnf);first|exact kQ|(refine bk ?_ ?_<;>intro _<;>try exact exo)|refine stq ?_|refine cd (Ck sd) (λ_=>?_) (λ_=>?_)|fail)
    all_goals(conv=>whnf)
    all_goals first
     | exact aD.int (pE6 g1 g2 hk (by rintro(h|h)<;>contradiction)).symm
     | (refine⟨k+1,⟨om,aj om h4 (by first|exact .inl asm|exact .inr asm)⟩,om,?_⟩
        exact lq0)
   .repeat' ((conv=>whnf);first|exact kQ|(refine bk ?_ ?_<;>intro _<;>try exact exo)|refine stq ?_)
    (conv=>whnf)
    exact aD.int (pE0 g1 g2 (bt om h4)).symm
end
section
theorem xHD.rbX {p:Prop}(h:p:=by first|exact Rb.map (Res.eqs (kg om) (zu _))|fail):p:=h
open xHD
variable [GT]
def Fa (a b:Mpg):Prop:=a.frm=b.frm/\a.tag=b.tag
abbrev xm (l:List Mpg):List (D×D):=l.map λm=>(IO m,boo true)
theorem oO {h:aA}{m:Mpg}:∀ {l:List Mpg}{i:Nat},∃ r,cY h (IO m) (xm l) i=some r/\((∃ x,x∈l/\Fa m x)/\(∃ j,r=some (j,boo true))\/(¬∃ x,x∈l/\Fa m x)/\r=none)
 | [],i=>⟨none,rfl,.inr ⟨si,rfl⟩⟩
 | x::l,i=>by
  simp only[xm,List.map_cons,cY,bg,gU,dp,if_true];by_cases h1:m.frm=x.frm
  .by_cases h2:m.tag=x.tag
   .rw[show(m.frm == x.frm&&m.tag == x.tag)=true from by simp[h1,h2]];exact⟨_,rfl,.inl ⟨⟨x,si,h1,h2⟩,i,rfl⟩⟩
   .rw[show(m.frm == x.frm&&m.tag == x.tag)=false from by simp[h2]];obtain⟨r,h3,h4⟩:=oO (h:=h) (m:=m) (l:=l) (i:=i+1);refine⟨r,h3,h4.imp (λ⟨⟨y,hy,hk⟩,hr⟩=>⟨⟨y,by simp[hy],hk⟩,hr⟩) (λ⟨hn,hr⟩=>⟨?_,hr⟩)⟩;rintro⟨y,hy,hk⟩;rcases List.mem_cons.1 hy with rfl|hy
    .exact h2 hk.2
    .exact hn ⟨y,hy,hk⟩
  .rw[show(m.frm == x.frm&&m.tag == x.tag)=false from by simp[h1]];obtain⟨r,h3,h4⟩:=oO (h:=h) (m:=m) (l:=l) (i:=i+1);refine⟨r,h3,h4.imp (λ⟨⟨y,hy,hk⟩,hr⟩=>⟨⟨y,by simp[hy],hk⟩,hr⟩) (λ⟨hn,hr⟩=>⟨?_,hr⟩)⟩;rintro⟨y,hy,hk⟩;rcases List.mem_cons.1 hy with rfl|hy
   .exact h1 hk.1
   .exact hn ⟨y,hy,hk⟩
theorem fW.key {h:aA}{m:Mpg}{l:List Mpg}{K:Option (Nat×D)->Prop}(yes:∀ i,(∃ x,x∈l/\Fa m x)->K (some (i,boo true))) (no:(¬∃ x,x∈l/\Fa m x)->K none):fW h (IO m) (xm l) K:=by
 obtain⟨r,h1,h2⟩:=oO (h:=h) (m:=m) (l:=l) (i:=0);refine⟨r,h1,?_⟩;rcases h2 with⟨h3,j,rfl⟩|⟨h3,rfl⟩
 .exact yes j h3
 .exact no h3
theorem zu (l:List Mpg):∀ p∈xm l,aK p.1=true/\aK p.2=true:=by
 intro p hp;obtain⟨m,_,rfl⟩:=List.mem_map.1 hp;exact⟨rfl,rfl⟩
theorem dec_go {p:Prop}{inst:Decidable p}{F:¬p->Prop}{G:p->Prop}(hp:p) (go:G hp):Decidable.rec (motive:=λ_=>Prop) F G inst:=by
 cases inst with
 | isFalse h=>exact absurd hp h
 | isTrue h=>exact go
def Seen (l:List Mpg) (i:Nat) (h:i<l.length):Prop:=∃ x,x∈l.take i/\Fa l[i] x
theorem xY {l:List Mpg}(ho:Gk l):∃ e:Int,Pu Tryz.prog 305 [cT l] (i64 e)/\(e=0↔MOk l):=by
 have hlen:=ho.len;by_cases h0:dg l=0
 .have hp:Pu Tryz.prog 306 [cT l] (i64 0):=h0▸A0 ho;by_cases ha:Asc l
  .refine⟨0,?_,λ_=>⟨h0,ha⟩,λ_=>rfl⟩;refine pv Tryz.func305 ?_;repeat' ((conv=>whnf);first|exact kQ|(refine bk ?_ ?_<;>intro _<;>try exact exo)|refine stq ?_|refine cp hp ?_|fail)
   refine aG.by aB T0 (λk:Nat=>⟨tmp 47 [(0,cT l),(4,boo true),(5,i64 ((k+1:Nat):Int))],⟨0,[]⟩⟩)
    (λk=>k<=l.length) (λk=>l.length-k) 0 om ?_ ?_
   .exact lq0
   intro k h3;by_cases hk:k+1<l.length
   .have hb:=Bj.2 (ha (k+1) hk om);simp only[Nat.add_sub_cancel] at hb;repeat' ((conv=>whnf);first|refine Idx.atS (sz:=3) (c:=iu) (by intro _;rfl) k om om ?_|refine Idx.atS (sz:=3) (c:=iu) (by intro _;rfl) (k+1) om om ?_|exact kQ|(refine bk ?_ ?_<;>intro _<;>try exact exo)|refine stq ?_|refine cp uC ?_|fail)
    (conv=>whnf)
    refine⟨k+1,om,om,?_⟩;exact lq0
   .repeat' ((conv=>whnf);first|exact kQ|(refine bk ?_ ?_<;>intro _<;>try exact exo)|refine stq ?_)
    (conv=>whnf)
    exact aD.same rfl rfl
  .refine⟨if ∃ i,∃ h:i<l.length,Seen l i h then 5 else 4,?_,λh=>by split at h<;>omega,λh=>absurd h.2 ha⟩;refine pv Tryz.func305 ?_;repeat' ((conv=>whnf);first|exact kQ|(refine bk ?_ ?_<;>intro _<;>try exact exo)|refine stq ?_|refine cp hp ?_|fail)
   refine aG.by2 aB T0 (λ(k:Nat) (b:Bool)=>⟨tmp 47 [(0,cT l),(4,boo b),(5,i64 ((k+1:Nat):Int))],⟨0,[]⟩⟩)
    (λk b=>k<=l.length/\(b=true->∀ i (h:i<l.length),i<=k->∀ h0:i≠0,bef (l[i-1]'(by omega)) l[i])) (λk _=>l.length-k) 0 true ⟨om,λ_ i h hi h0=>om⟩ ?_ ?_
   .exact lq0
   intro k b ⟨h3,h4⟩;by_cases hk:k+1<l.length
   .repeat' ((conv=>whnf);first|refine Idx.atS (sz:=3) (c:=iu) (by intro _;rfl) k om om ?_|refine Idx.atS (sz:=3) (c:=iu) (by intro _;rfl) (k+1) om om ?_|exact kQ|(refine bk ?_ ?_<;>intro _<;>try exact exo)|refine stq ?_|refine cp uC ?_|fail)
    all_goals(conv=>whnf)
    .refine⟨k+1,false,⟨om,λh=>by cases h⟩,om,?_⟩;exact lq0
    .rename_i hc;refine⟨k+1,b,⟨om,λhb i h hi h0=>?_⟩,om,?_⟩
     .by_cases he:i=k+1
      .subst he;have:=Bj.1 (Int.not_le.1 hc)
       simpa using this
      .exact h4 hb i h om h0
     exact lq0
   .have hbf:b=false:=by
     cases b with
     | false=>rfl
     | true=>exact absurd (λi h h0=>h4 rfl i h om h0) ha
    subst hbf;repeat' ((conv=>whnf);first|exact kQ|(refine bk ?_ ?_<;>intro _<;>try exact exo)|refine stq ?_|fail)
    refine aG.by aB T0 (λk:Nat=>⟨tmp 47 [(6,.map 0),(33,cT l),(34,i64 l.length),(35,i64 (k:Int))],⟨1,[(0,.map (xm (l.take k)))]⟩⟩)
     (λk=>k<=l.length/\∀ i (h:i<l.length),i<k->¬Seen l i h) (λk=>l.length-k) 0 ⟨om,λ_ _ h=>om⟩ ?_ ?_
    .exact lq [(0,_)] []
    intro k ⟨h5,h6⟩;repeat' ((conv=>whnf);first|exact kQ|(refine bk ?_ ?_<;>intro _<;>try exact exo)|refine stq ?_|refine cp IM ?_|refine dec_go (by kernel_rfl) ?_|(refine fW.key (λ_ _=>?_) (λ_=>?_)<;>(try contradiction)))
    all_goals(conv=>whnf)
    all_goals first
     | (rename_i hs;exact aD.int (by rw[if_pos ⟨k,om,hs⟩]))
     | exact aD.int (by rw[if_neg (λ⟨i,h,hs⟩=>h6 i h om hs)])
     | skip
    refine⟨k+1,⟨om,aj om h6 asm⟩,om,?_⟩;exact lq [(0,_)] []
 .have hp:=A0 ho;refine⟨dg l,?_,λh=>absurd h h0,λh=>h.1⟩;refine pv Tryz.func305 ?_;repeat' ((conv=>whnf);first|exact kQ|(refine bk ?_ ?_<;>intro _<;>try exact exo)|refine stq ?_|refine cp hp ?_|fail)
  (conv=>whnf)
  exact aD.same rfl rfl
end
section
theorem xHF.rbX {p:Prop}(h:p:=by first|exact Rb.cells (Rds.same hnb) rfl|fail):p:=h
open xHF
variable [GT]
theorem kW:∀ {l:List D}(n:Nat),aF l=true->aF (l.drop n)=true
 | l,0,h=>by simpa using h
 | [],n+1,_=>by simp[aF]
 | d::l,n+1,h=>by simp only[aF,kC] at h;simpa using kW n h.2
def am:List Str:=[[118,101,114,115,105,111,110],[99,97,116,101,103,111,114,121],[119,105,100,116,104],[115,99,114,105,112,116],[103,114,97,112,104,101,109,101],[119,111,114,100],[115,101,110,116,101,110,99,101],[108,105,110,101],[99,108,97,115,115,101,115],[100,101,99,111,109,112,111,115,105,116,105,111,110],[101,120,99,108,117,115,105,111,110,115],[108,111,119,101,114],[117,112,112,101,114],[116,105,116,108,101],[102,111,108,100],[99,97,115,101,100],[105,103,110,111,114,97,98,108,101],[115,116,97,114,116],[99,111,110,116,105,110,117,101],[109,101,100,105,97,108],[99,111,110,102,117,115,97,98,108,101]]
def iJ (k:Nat):Str:=am.getD k []
def ftyp (k:Nat):TypeId:=([169,171,171,171,171,171,171,171,174,177,180,177,177,177,177,180,180,180,180,180,177]:List Nat).getD k 0
def fchk (k:Nat):FuncId:=([293,296,296,296,296,296,296,296,299,302,313,302,302,302,302,313,313,313,313,313,302]:List Nat).getD k 0
def foff (k:Nat):Nat:=([0,2,4,6,8,10,12,14,16,17,18,19,20,21,22,23,24,25,26,27,28]:List Nat).getD k 0
theorem Id:Pu Tryz.prog 74 [] (strs am):=by
 refine pv Tryz.func74 ?_;repeat' ((conv=>whnf);first|exact kQ|(refine bk ?_ ?_<;>intro _<;>try exact exo)|refine stq ?_)
 (conv=>whnf)
 exact⟨Rd.frz rfl rfl (kD rfl) (Rds.eqs rfl rfl)⟩
theorem cf (d:Db):∀ k,k<21->Pu Tryz.prog 75 [.iptr (dbC d),.str (iJ k)] (.iface (ftyp k) (.agg [.iptr ((dbC d).drop (foff k))])):=by
 intro k hk;have hn:aK (.iface (ftyp k) (.agg [.iptr ((dbC d).drop (foff k))]))=true:=by simp[aK,aF,kW _ (cV d)]
 rcases(by omega:k=0\/k=1\/k=2\/k=3\/k=4\/k=5\/k=6\/k=7\/k=8\/k=9\/k=10\/k=11\/k=12\/k=13\/k=14\/k=15\/k=16\/k=17\/k=18\/k=19\/k=20) with rfl|rfl|rfl|rfl|rfl|rfl|rfl|rfl|rfl|rfl|rfl|rfl|rfl|rfl|rfl|rfl|rfl|rfl|rfl|rfl|rfl
 all_goals
  refine pv Tryz.func75 ?_;repeat' ((conv=>whnf);first|refine Br.strF rfl ?_|refine Br.strT rfl ?_|exact kQ|(refine bk ?_ ?_<;>intro _<;>try exact exo)|refine stq ?_)
  (conv=>whnf)
  exact⟨Rd.eqd rfl hn⟩
theorem Dz {a b:Int}{rest:List D}(hr:aF rest=true):Pu Tryz.prog 293 [.agg [.iptr (i64 a::i64 b::rest)]] (i64 (if uX a/\uX b then 0 else 1)):=by
 refine Pu.of_v aB T0 Tryz.func293 rfl rfl (by simp[aK,aF,hr]) ?_;repeat' ((conv=>whnf);first|exact kQ|(refine bk ?_ ?_<;>intro _<;>try exact exo)|refine stq ?_)
 refine aG.times aB T0 3 ?_;repeat' ((conv=>whnf);first|exact kQ|(refine bk ?_ ?_<;>intro _<;>try exact exo)|refine stq ?_)
 all_goals(conv=>whnf)
 all_goals first
  | exact aD.int (by rw[if_neg (by rintro⟨⟨_,_⟩,_,_⟩;omega)])
  | exact aD.int (by rw[if_pos ⟨⟨om,om⟩,om,om⟩])
theorem gX {p:Prp}{rest:List D}(hp:p.ok) (hr:aF rest=true):Pu Tryz.prog 296 [.agg [.iptr (strs p.names::cg p.spans::rest)]] (i64 (if PrV p then 0 else 11)):=by
 refine Pu.of_v aB T0 Tryz.func296 rfl rfl (by simp[aK,aF,hr,aX,ah]) ?_;repeat' ((conv=>whnf);first|exact kQ|(refine bk ?_ ?_<;>intro _<;>try exact exo)|refine stq ?_|refine cd (wu sd) (λ_=>?_) (λ_=>?_)|fail)
 all_goals(conv=>whnf)
 all_goals first
  | exact aD.int (by rename_i h;rw[if_pos h])
  | exact aD.int (by rename_i h;rw[if_neg h])
theorem iZ {l:List Rng}{rest:List D}(hl:l.length<=12) (hr:aF rest=true):Pu Tryz.prog 313 [.agg [.iptr (ax l::rest)]] (i64 (if dB l then 0 else 11)):=by
 refine Pu.of_v aB T0 Tryz.func313 rfl rfl (by simp[aK,aF,hr,ak]) ?_;repeat' ((conv=>whnf);first|exact kQ|(refine bk ?_ ?_<;>intro _<;>try exact exo)|refine stq ?_|refine cd (zS sd) (λ_=>?_) (λ_=>?_)|fail)
 all_goals(conv=>whnf)
 all_goals first
  | exact aD.int (by rename_i h;rw[if_pos h])
  | exact aD.int (by rename_i h;rw[if_neg h])
theorem iv {l:List Mpg}{rest:List D}{e:Int}(he:Pu Tryz.prog 305 [cT l] (i64 e)) (hr:aF rest=true):Pu Tryz.prog 302 [.agg [.iptr (cT l::rest)]] (i64 e):=by
 refine Pu.of_v aB T0 Tryz.func302 rfl rfl (by simp[aK,aF,hr,bn]) ?_;repeat' ((conv=>whnf);first|exact kQ|(refine bk ?_ ?_<;>intro _<;>try exact exo)|refine stq ?_|refine cp he ?_|fail)
 (conv=>whnf)
 exact aD.same rfl rfl
theorem GK {l:List Spn}{rest:List D}(hl:l.length<=9223372036854775807) (hr:aF rest=true):Pu Tryz.prog 299 [.agg [.iptr (cg l::rest)]] (i64 (if ClV l then 0 else 11)):=by
 have hnb:aF [D.iptr (cg l::rest)]=true:=by simp[aF,aK,ah,hr]
 refine Pu.of_v aB T0 Tryz.func299 rfl rfl (by simp[aK,aF,hr,ah]) ?_;repeat' ((conv=>whnf);first|exact kQ|(refine bk ?_ ?_<;>intro _<;>try exact exo)|refine stq ?_)
 refine aG.by aB T0 (λk:Nat=>⟨tmp 72 [(1,.ptr 0 0),(9,cg l),(10,i64 l.length),(11,i64 (k:Int))],⟨1,[(0,.cells [.iptr (cg l::rest)] true)]⟩⟩)
  (λk=>k<=l.length/\∀ i (h:i<l.length),i<k->ClQ l i l[i]) (λk=>l.length-k) 0 ⟨om,λ_ _ h=>om⟩ ?_ ?_
 .exact lq [(0,_)] []
 intro k ⟨h3,h4⟩;have hall:l.length<=k->ClV l:=λh i hi=>h4 i hi om
 by_cases hk:k=0
 .subst hk;repeat' ((conv=>whnf);first|exact kQ|(refine bk ?_ ?_<;>intro _<;>try exact exo)|refine stq ?_)
  all_goals(conv=>whnf)
  all_goals first
   | exact aD.int (by rw[if_neg (λhc:ClV l=>by have:=(hc 0 om).1;omega)])
   | exact aD.int (by rw[if_pos (hall om)])
   | (refine⟨0+1,⟨om,aj om h4 ⟨om,λh=>absurd rfl h⟩⟩,om,?_⟩
      exact lq [(0,_)] [])
 .by_cases hk2:k<l.length
  .have h5:=h4 (k-1) om om;have h6:=h5.1;have e:l.getD (k-1) default=l[k-1]:=aH om;repeat' ((conv=>whnf);first|exact kQ|(refine bk ?_ ?_<;>intro _<;>try exact exo)|refine stq ?_|refine Idx.atS (by intro _;rfl) (k-1) om om ?_)
   all_goals(conv=>whnf)
   all_goals first
    | exact aD.int (by rw[if_neg (λhc:ClV l=>by have h7:=hc k om;have:=h7.1;have:=h7.2 hk;rw[e] at this;omega)])
    | (refine⟨k+1,⟨om,aj om h4 ⟨om,λ_=>by rw[e];omega⟩⟩,om,?_⟩
       exact lq [(0,_)] [])
  .repeat' ((conv=>whnf);first|exact kQ|(refine bk ?_ ?_<;>intro _<;>try exact exo)|refine stq ?_)
   (conv=>whnf)
   exact aD.int (by rw[if_pos (hall om)])
end
end Go.Proofs.YtlimkdlhldlolaaGreatDoor
