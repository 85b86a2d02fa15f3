/-
  The statements ColumnsWidths, ColumnsPads and ColumnsOffsets over data.
-/
import Derived.Test.YtbmdndckndnehaaGreatDoorO8
import Derived.Test.YtbmdndckndnehaaGreatDoorO3
set_option linter.unusedSectionVars false
namespace Go.Proofs.YtbmdndckndnehaaGreatDoor
open Go Go.Am Classical
set_option maxRecDepth 1000000
theorem xOC.rdX {p:Prop}(h:p:=by first|exact Rd.int om|exact eT (b:=x::xs) rfl rfl (aO _) rfl|exact Rd.sl' rfl sim sim|fail):p:=h
theorem xOC.rbX {p:Prop}(h:p:=by first|exact Rb.cells (Rds.eqs (af (by intro _;rfl) (x::xs) _) (aF (by intro _;rfl) _)) rfl|fail):p:=h
open xOC
theorem ED {d:Db}{text:List Int}(ho:d.ok) (_hx:text.length<=9223372036854775807):@Pu gtR Tryz.prog 7 [dbD d,aD text] (boo true):=by
 letI:=gtR;have hal:=jB;by_cases hf:SmD d∧text.length<=40
 ·obtain⟨hs,h40⟩:=hf;have hF:=gK (text:=text) ho hs h40
  obtain⟨n,e,h1,h2⟩:∃ n e:Int,Pu Tryz.prog 26 [dbD d,aD text] (.tup [i64 n,i64 e])∧Pu Tryz.prog 27 [dbD d,aD text] (.tup [i64 n,i64 e]):=by
   by_cases hv:DbV d
   ·exact⟨_,_,Good.width ⟨ho,hs,hv⟩ om,Good.rwidth ⟨ho,hs,hv⟩ om⟩
   ·exact⟨_,_,oI ho hs hv,t9 ho hs hv⟩
  refine pv Tryz.func7 ?_;repeat' ((conv=>whnf);first|exact kQ|(refine bk ?_ ?_<;>intro _<;>try(exfalso;omega))|refine stq ?_|refine cp hF ?_|refine cp h1 ?_|refine cp h2 ?_|refine cp hal ?_|fail)
  all_goals(conv=>whnf)
  exact aC.same rfl rfl
 ·have hF:=kz (text:=text) ho hf;refine pv Tryz.func7 ?_;repeat' ((conv=>whnf);first|exact kQ|(refine bk ?_ ?_<;>intro _<;>try(exfalso;omega))|refine stq ?_|refine cp hF ?_|refine cp hal ?_|fail)
  all_goals(conv=>whnf)
  exact aC.same rfl rfl
theorem Ay {p:Prp}{text:List Int}:∀ (P:List Rng) (k:Nat),bQ p text (P.take k)<=bQ p text P
 | [],k=>by simp
 | r::P,0=>(cY p text (r::P)).1
 | r::P,k+1=>by
  have:=Ay (p:=p) (text:=text) P k
  simp only[List.take_succ_cons,bQ];omega
theorem F0 {p:Prp}{text:List Int}{P:List Rng}{n:Int}(h:bQ p text P<=n):bT p text n 0 P=P.length:=by
 have h1:=i8 p text n P 0;refine Nat.le_antisymm h1 (Nat.le_of_not_lt λhl=>?_);have h2:=qt (p:=p) (text:=text) (n:=n) (P:=P) (s:=0) hl;have h3:=Ay (p:=p) (text:=text) P (bT p text n 0 P+1);omega
set_option maxHeartbeats 8000000 in
theorem C3 {d:Db}{text:List Int}{c:Int}(ho:d.ok) (_hx:text.length<=9223372036854775807) (hcr:-9223372036854775808<=c∧c<=9223372036854775807):@Pu gtR Tryz.prog 10 [dbD d,aD text,i64 c] (boo true):=by
 letI:=gtR;have hal:=jB;by_cases hf:SmD d∧text.length<=40
 ·obtain⟨hs,h40⟩:=hf;have hF:=gK (text:=text) ho hs h40;by_cases hq:0<=c
  ·by_cases hv:DbV d
   ·have g:Good d:=⟨ho,hs,hv⟩;have hc:=gu d text;have hO:=g.offset (text:=text) (n:=c) om ⟨hq,hcr.2⟩;have hW:=g.width (text:=text) om;by_cases hcol:bQ d.wid text (gP d text)<=c
    ·have e:=nz hc (k:=bT d.wid text c 0 (gP d text)) (by rw[F0 hcol];exact kP _);rw[e] at hO;generalize bQ d.wid text (gP d text)=W at *;refine pv Tryz.func10 ?_;repeat' ((conv=>whnf);first|exact kQ|(refine bk ?_ ?_<;>intro _<;>try(exfalso;omega))|refine stq ?_|refine cp hF ?_|refine cp hO ?_|refine cp hW ?_|refine cp hal ?_|fail)
     all_goals(conv=>whnf)
     all_goals exact aC.same rfl rfl
    ·have hkl:bT d.wid text c 0 (gP d text)<(gP d text).length:=by
      have h1:=i8 d.wid text c (gP d text) 0;refine Nat.lt_of_le_of_ne h1 λe=>hcol ?_
      have h2:=nr (p:=d.wid) (text:=text) (P:=gP d text) (n:=c) (s:=0) hq (kP _);rw[e,List.take_length] at h2;omega
     have h2:=nr (p:=d.wid) (text:=text) (P:=gP d text) (n:=c) (s:=0) hq (kP _);have h3:=qt (p:=d.wid) (text:=text) (P:=gP d text) (n:=c) (s:=0) hkl;have h4:=lT (p:=d.wid) (text:=text) hkl;have h5:=cY d.wid text ((gP d text).take (bT d.wid text c 0 (gP d text)));have hB:=g.begW (text:=text) om (Nat.le_of_lt hkl) rfl;have hC:=g.rcells (text:=text) om;have hpl:=gE hc;have htk:((gP d text).take (bT d.wid text c 0 (gP d text))).length<=40:=by rw[List.length_take];omega
     have hkat:=lK hkl hc;have hke:=dG (bT d.wid text c 0 (gP d text)) hc;have hke2:=dG (bT d.wid text c 0 (gP d text)+1) hc;have hge:=gz (s:=0) hkl;have hLl:((gP d text).map (dI d.wid text)).length=(gP d text).length:=by simp
     have hLk:((gP d text).map (dI d.wid text))[bT d.wid text c 0 (gP d text)]'(by rw[hLl];exact hkl)=dI d.wid text (gP d text)[bT d.wid text c 0 (gP d text)]:=by simp
     have hwr:=dH d.wid text (gP d text)[bT d.wid text c 0 (gP d text)];generalize(gP d text).map (dI d.wid text)=L at *;generalize bQ d.wid text (gP d text)=W at *;generalize bQ d.wid text ((gP d text).take (bT d.wid text c 0 (gP d text)+1))=B2 at *;generalize bQ d.wid text ((gP d text).take (bT d.wid text c 0 (gP d text)))=B at *;generalize bT d.wid text c 0 (gP d text)=K at *;generalize gP d text=P at *;refine pv Tryz.func10 ?_;repeat' ((conv=>whnf);first|exact kQ|(refine bk ?_ ?_<;>intro _<;>try(exfalso;omega))|refine stq ?_|refine cp hF ?_|refine cp hO ?_|refine cp hW ?_|refine cp hC ?_|refine ap.by aB T0 [0,0,0,6,15,31,63,63,127,511] (by kernel_rfl) ?_|refine Chk.mk ⟨by omega,by omega,by omega,(by simp:(text.map i64).length=text.length*1)⟩ ?_|refine cp hB ?_|fail)
     refine aH.by aB T0 (λi:Nat=>⟨tmp 118 [(2,i64 c),(7,i64 (b6 0 P K)),(11,i64 B),(13,a7 P),(14,aD L),(15,i64 (i:Int))],⟨0,[]⟩⟩) (λi=>i<=K) (λi=>P.length-i) 0 om ?_ ?_
     ·exact lq0
     intro i h6;by_cases hi:i=K
     ·subst hi;repeat' ((conv=>whnf);first|refine Idx.at (f:=i64) (l:=L) i om om ?_|exact kQ|(refine bk ?_ ?_<;>intro _<;>try(exfalso;omega))|refine stq ?_|refine cp hal ?_|fail)
      all_goals(conv=>whnf)
      all_goals exact aC.same rfl rfl
     ·have hil:i<P.length:=by omega
      have a1:=lK hil hc;have a2:=gz (s:=0) hil;have a3:=pC (k:=i+1) (n:=K) hc om;repeat' ((conv=>whnf);first|exact kQ|(refine bk ?_ ?_<;>intro _<;>try(exfalso;omega))|refine stq ?_|fail)
      all_goals(conv=>whnf)
      refine⟨i+1,by omega,by omega,?_⟩;exact lq0
   ·have hO:=D1 (text:=text) (n:=c) ho hs hv;have hW:=oI (text:=text) ho hs hv;refine pv Tryz.func10 ?_;repeat' ((conv=>whnf);first|exact kQ|(refine bk ?_ ?_<;>intro _<;>try(exfalso;omega))|refine stq ?_|refine cp hF ?_|refine cp hO ?_|refine cp hW ?_|refine cp hal ?_|fail)
    all_goals(conv=>whnf)
    all_goals exact aC.same rfl rfl
  ·refine pv Tryz.func10 ?_;repeat' ((conv=>whnf);first|exact kQ|(refine bk ?_ ?_<;>intro _<;>try(exfalso;omega))|refine stq ?_|refine cp hF ?_|refine cp hal ?_|fail)
   all_goals(conv=>whnf)
   all_goals exact aC.same rfl rfl
 ·have hF:=kz (text:=text) ho hf;refine pv Tryz.func10 ?_;repeat' ((conv=>whnf);first|exact kQ|(refine bk ?_ ?_<;>intro _<;>try(exfalso;omega))|refine stq ?_|refine cp hF ?_|refine cp hal ?_|fail)
  all_goals(conv=>whnf)
  all_goals exact aC.same rfl rfl
theorem xJ (k:Nat):List.replicate k (32:Int)++[32]=List.replicate (k+1) 32:=(List.replicate_succ' (n:=k) (a:=(32:Int))).symm
theorem A6 [GT] {l:List Int}{m:Nat}(h:m=l.length):splice (l.map i64) (0+m*1) []=l.map i64:=by subst h;simp[splice]
theorem A7 [GT] {l m:List Int}(h:m.length=0):splice (l.map i64) (0+l.length*1) (m.map i64)=(l++m).map i64:=by
 obtain rfl:=List.length_eq_zero_iff.1 h;simp[splice]
theorem Jf [GT] (l m:List Int):((l.map i64).drop 0).take (l.length*1)++m.map i64=(l++m).map i64:=by
 rw[List.drop_zero,Nat.mul_one,kE si,List.map_append]
set_option maxHeartbeats 8000000 in
theorem rPad_c {d:Db}{text:List Int}{W n:Int}{r:Bool}(hW:@Pu gtR Tryz.prog 27 [dbD d,aD text] (.tup [i64 W,i64 0])) (h0:0<=W∧W<=2000) (hn:n<=300) (hx:text.length<=1000):@Pu gtR Tryz.prog 29 [dbD d,aD text,i64 n,boo r] (.tup [aD (mn text W n r),i64 0]):=by
 letI:=gtR;refine pv Tryz.func29 ?_;repeat' ((conv=>whnf);first|exact kQ|(refine bk ?_ ?_<;>intro _<;>try(exfalso;omega))|refine stq ?_|refine cp hW ?_|fail)
 refine aH.by2 aB T0 (λ(k:Nat) (o:List Int)=>⟨tmp 46 [(1,aD text),(2,i64 n),(3,boo r),(12,aU 0 1 o),(13,aJ),(14,i64 (W+k))],⟨1,bz 0 (λx=>[i64 x]) o⟩⟩)
  (λk o=>(k<=(n-W).toNat∧k<=300)∧o=List.replicate k 32) (λk _=>(n-W).toNat-k) 0 [] ⟨⟨by omega,by omega⟩,rfl⟩ ?_ ?_
 ·exact lq0
 intro k o ⟨⟨h3,h4⟩,h5⟩;have hol:o.length=k:=by rw[h5];simp
 by_cases hk:W+k<n
 ·cases o with
  | nil=>
   repeat' ((conv=>whnf);first|exact kQ|(refine bk ?_ ?_<;>intro _<;>try(exfalso;omega))|refine stq ?_|fail)
   all_goals(conv=>whnf)
   refine⟨k+1,([]:List Int)++[32],⟨⟨by omega,by omega⟩,(congrArg (·++[(32:Int)]) h5).trans (xJ k)⟩,by omega,?_⟩;exact lq [(0,_)] []
  | cons x xs=>
   have hlen:(x::xs).length<=1001:=by omega
   repeat' ((conv=>whnf);first|exact kQ|(refine bk ?_ ?_<;>intro _<;>try(exfalso;omega))|refine stq ?_|fail)
   all_goals(conv=>whnf)
   refine⟨k+1,(x::xs)++[32],⟨⟨by omega,by omega⟩,(congrArg (·++[(32:Int)]) h5).trans (xJ k)⟩,by omega,?_⟩;exact lq [(0,_)] []
 have hb:o=List.replicate (n-W).toNat 32:=by rw[h5];congr 1;omega
 cases r with
 | false=>
  rw[show mn text W n false=text++o by rw[mn,hb];rfl];clear hb h5;cases o with
  | nil=>
   rw[List.append_nil];repeat' ((conv=>whnf);first|exact kQ|(refine bk ?_ ?_<;>intro _<;>try(exfalso;omega))|refine stq ?_|refine c9.lst ?_|refine Chk.mk (fj (λ_=>rfl) _) ?_|refine Chk.mk (by show 0+(_+0)*1<=_;simp;done) ?_|fail)
   all_goals(conv=>whnf)
   all_goals first
    | (obtain rfl:text=[]:=List.length_eq_zero_iff.1 asm;exact⟨.tup (.cons Rd.nil (.cons (.same rfl) .nil))⟩)
    | exact⟨.tup (.cons (eT (b:=text) rfl rfl (A6 rfl) si) (.cons (.same rfl) .nil))⟩
    | exact⟨.tup (.cons (eT (b:=text) rfl rfl rfl si) (.cons (.same rfl) .nil))⟩
  | cons x xs=>
   have hx2:(x::xs).length=xs.length+1:=rfl;repeat' ((conv=>whnf);first|refine db.weak (x:=Code.seq (Code.seq (Code.region 9 _ _) _) _) aB T0 (s0:=⟨tmp 46 [(1,aD text),(3,boo false),(12,aD (x::xs)),(13,aJ)],⟨0,[]⟩⟩) ?_ ?_|exact kQ|(refine bk ?_ ?_<;>intro _<;>try(exfalso;omega))|refine stq ?_|refine c9.lst ?_|refine Chk.mk (fj (λ_=>rfl) _) ?_|refine Chk.mk ⟨(by show _*8<=1099511627776;omega),(by show _<=1099511627776;omega),(by show 0+_*1<=_;simp;done)⟩ ?_|refine Chk.mk (by show 0+(_+_)*1<=_;rw[List.length_map];omega) ?_|fail)
   ·exact lq [] [0]
   all_goals(conv=>whnf)
   all_goals first
    | exact⟨.tup (.cons (eT (b:=text++(x::xs)) rfl rfl (Jf _ _) sim) (.cons (.same rfl) .nil))⟩
    | exact⟨.tup (.cons (eT (b:=text++(x::xs)) rfl rfl (A7 om) sim) (.cons (.same rfl) .nil))⟩
    | (obtain rfl:text=[]:=List.length_eq_zero_iff.1 asm;exact⟨.tup (.cons (eT (b:=x::xs) rfl rfl rfl rfl) (.cons (.same rfl) .nil))⟩)
 | true=>
  rw[show mn text W n true=o++text by rw[mn,hb];rfl];clear hb h5;cases o with
  | nil=>
   rw[List.nil_append];repeat' ((conv=>whnf);first|exact kQ|(refine bk ?_ ?_<;>intro _<;>try(exfalso;omega))|refine stq ?_|refine c9.lst ?_|refine Chk.mk (fj (λ_=>rfl) _) ?_|refine Chk.mk (by show 0+(_+0)*1<=_;simp;done) ?_|fail)
   all_goals(conv=>whnf)
   all_goals first
    | (obtain rfl:text=[]:=List.length_eq_zero_iff.1 asm;exact⟨.tup (.cons Rd.nil (.cons (.same rfl) .nil))⟩)
    | exact⟨.tup (.cons (eT (b:=text) rfl rfl (A6 rfl) si) (.cons (.same rfl) .nil))⟩
    | exact⟨.tup (.cons (eT (b:=text) rfl rfl rfl si) (.cons (.same rfl) .nil))⟩
  | cons x xs=>
   have hx2:(x::xs).length=xs.length+1:=rfl;repeat' ((conv=>whnf);first|refine db.weak (x:=Code.seq (Code.seq (Code.region 9 _ _) _) _) aB T0 (s0:=⟨tmp 46 [(1,aD text),(3,boo true),(12,aD (x::xs)),(13,aJ)],⟨0,[]⟩⟩) ?_ ?_|exact kQ|(refine bk ?_ ?_<;>intro _<;>try(exfalso;omega))|refine stq ?_|refine c9.lst ?_|refine Chk.mk (fj (λ_=>rfl) _) ?_|refine Chk.mk ⟨(by show _*8<=1099511627776;omega),(by show _<=1099511627776;omega),(by show 0+_*1<=_;simp;done)⟩ ?_|refine Chk.mk (by show 0+(_+_)*1<=_;rw[List.length_map];omega) ?_|fail)
   ·exact lq [] [0]
   all_goals(conv=>whnf)
   all_goals first
    | exact⟨.tup (.cons (eT (b:=(x::xs)++text) rfl rfl (Jf _ _) sim) (.cons (.same rfl) .nil))⟩
    | exact⟨.tup (.cons (eT (b:=(x::xs)++text) rfl rfl (A7 om) sim) (.cons (.same rfl) .nil))⟩
    | (obtain rfl:text=[]:=List.length_eq_zero_iff.1 asm;exact⟨.tup (.cons (eT (b:=x::xs) rfl rfl rfl rfl) (.cons (.same rfl) .nil))⟩)
theorem pads_c {x:Db×List Int×Int×Bool}(ho:x.1.ok) (_hx:x.2.1.length<=9223372036854775807) (hn:-9223372036854775808<=x.2.2.1∧x.2.2.1<=9223372036854775807):@Pu gtR Tryz.prog 8 [.agg (dbC x.1++[aD x.2.1,i64 x.2.2.1,boo x.2.2.2])] (boo true):=by
 letI:=gtR;obtain⟨d,text,n,r⟩:=x;simp only at ho hn ⊢;have hal:=jB;by_cases hf:(SmD d∧text.length<=40)∧n<=300
 ·obtain⟨⟨hs,h40⟩,hn3⟩:=hf;have hF:=gK (text:=text) ho hs h40;by_cases hv:DbV d
  ·have g:Good d:=⟨ho,hs,hv⟩;have hwr:=cY d.wid text (gP d text);have hpl:=gE (gu d text);have h1:=Ji (n:=n) (r:=r) (g.width (text:=text) om) om hn3 om;have h2:=rPad_c (n:=n) (r:=r) (g.rwidth (text:=text) om) om hn3 om;have hE:=Bo (l:=mn text (bQ d.wid text (gP d text)) n r) (by cases r<;>simp[mn]<;>omega);generalize mn text (bQ d.wid text (gP d text)) n r=l at *;refine pv Tryz.func8 ?_;repeat' ((conv=>whnf);first|exact kQ|(refine bk ?_ ?_<;>intro _<;>try(exfalso;omega))|refine stq ?_|refine cp hF ?_|refine cp h1 ?_|refine cp h2 ?_|refine cp hE ?_|refine cp hal ?_|fail)
   all_goals(conv=>whnf)
   all_goals exact aC.same rfl rfl
  ·have h1:=Pad_no (text:=text) (n:=n) (r:=r) ho hs hv
   have h2:Pu Tryz.prog 29 [dbD d,aD text,i64 n,boo r] (.tup [aJ,i64 11]):=by
    have hw:=t9 (text:=text) ho hs hv;refine pv Tryz.func29 ?_;repeat' ((conv=>whnf);first|exact kQ|(refine bk ?_ ?_<;>intro _<;>try(exfalso;omega))|refine stq ?_|refine cp hw ?_|fail)
    all_goals(conv=>whnf)
    exact⟨Rd.eqd rfl rfl⟩
   have hE:Pu Tryz.prog 16 [aJ,aJ] (boo true):=Ek rfl (by kernel_rfl);refine pv Tryz.func8 ?_;repeat' ((conv=>whnf);first|exact kQ|(refine bk ?_ ?_<;>intro _<;>try(exfalso;omega))|refine stq ?_|refine cp hF ?_|refine cp h1 ?_|refine cp h2 ?_|refine cp hE ?_|refine cp hal ?_|fail)
   all_goals(conv=>whnf)
   all_goals exact aC.same rfl rfl
 ·by_cases hf2:SmD d∧text.length<=40
  ·have hF:=gK (text:=text) ho hf2.1 hf2.2;have hn3:¬n<=300:=λh=>hf ⟨hf2,h⟩
   refine pv Tryz.func8 ?_;repeat' ((conv=>whnf);first|exact kQ|(refine bk ?_ ?_<;>intro _<;>try(exfalso;omega))|refine stq ?_|refine cp hF ?_|refine cp hal ?_|fail)
   all_goals(conv=>whnf)
   all_goals exact aC.same rfl rfl
  ·have hF:=kz (text:=text) ho hf2;refine pv Tryz.func8 ?_;repeat' ((conv=>whnf);first|exact kQ|(refine bk ?_ ?_<;>intro _<;>try(exfalso;omega))|refine stq ?_|refine cp hF ?_|refine cp hal ?_|fail)
   all_goals(conv=>whnf)
   all_goals exact aC.same rfl rfl
end Go.Proofs.YtbmdndckndnehaaGreatDoor
