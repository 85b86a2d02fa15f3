/-
  Contracts of functions over data: valid sets (reference).
-/
import Derived.Test.YtihggclfifimoaaGreatDoorHA
import Derived.Test.YtihggclfifimoaaGreatDoorHE
set_option linter.unusedSectionVars false
set_option maxRecDepth 1000000
namespace Go.Proofs.YtihggclfifimoaaGreatDoor
open Go Go.Am Classical
variable [GT]
theorem zo {rs:List Rng}(hr:rs.length<=40):Pu Tryz.prog 159 [bD rs] (fJ (fx rs)):=by
 refine pv Tryz.func159 ?_;repeat' ((conv=>whnf);first|exact kQ|(refine bk ?_ ?_<;>intro _<;>try(exfalso;omega))|refine stq ?_|refine cp (CI sd) ?_|fail)
 all_goals(conv=>whnf)
 exact⟨Rd.eqd rfl (by simp[aL,aK,aV])⟩
theorem Same_c {a b:List Rng}(ha:a.length<=9223372036854775807) (hb:b.length<=9223372036854775807):Pu Tryz.prog 395 [fJ a,fJ b] (boo (decide (a=b))):=by
 refine pv Tryz.func395 ?_;by_cases hl:a.length=b.length
 ·repeat' ((conv=>whnf);first|exact kQ|(refine bk ?_ ?_<;>intro _<;>try(exfalso;omega))|refine stq ?_)
  all_goals(conv=>whnf)
  refine aH.by aA T0 (λk:Nat=>⟨tmp 31 [(2,.ptr 0 0),(3,.ptr 1 0),(5,i64 (k:Int))],⟨2,[(0,.cells [bD a] true),(1,.cells [bD b] true)]⟩⟩)
   (λk=>k<=a.length∧∀ i (h:i<a.length),i<k->a[i]=b[i]'(by omega)) (λk=>a.length-k) 0 ⟨by omega,λ_ _ h=>by omega⟩ ?_ ?_
  ·exact lq [(0,_),(1,_)] []
  intro k ⟨h3,h4⟩;by_cases hk:k<a.length
  ·have hk':k<b.length:=by omega
   by_cases he:a[k]=b[k]
   ·repeat' ((conv=>whnf);first|exact kQ|(refine bk ?_ ?_<;>intro _<;>try(exfalso;omega))|refine stq ?_|refine aX.by aA T0 [0,1,0,7,15,0,32,0,224,480,1023] (by kernel_rfl) ?_|refine Idx.atS (sz:=2) (c:=bq) (λ_=>rfl) k om om ?_|(split<;>rename_i heq<;>rw[he] at heq<;>first|(obtain rfl:=Option.some.inj (uK.symm.trans heq))|exact absurd (uK.symm.trans heq) si))
    all_goals(conv=>whnf)
    refine⟨k+1,⟨by omega,ad om h4 he⟩,by omega,?_⟩;exact lq [(0,_),(1,_)] []
   ·repeat' ((conv=>whnf);first|exact kQ|(refine bk ?_ ?_<;>intro _<;>try(exfalso;omega))|refine stq ?_|refine aX.by aA T0 [0,1,0,7,15,0,32,0,224,480,1023] (by kernel_rfl) ?_|refine Idx.atS (sz:=2) (c:=bq) (λ_=>rfl) k om om ?_|(split<;>rename_i heq<;>first|(obtain rfl:=Option.some.inj ((pT he).symm.trans heq))|exact absurd ((pT he).symm.trans heq) si))
    all_goals(conv=>whnf)
    exact aE.no (λhc=>he (by subst hc;rfl))
  ·repeat' ((conv=>whnf);first|exact kQ|(refine bk ?_ ?_<;>intro _<;>try(exfalso;omega))|refine stq ?_)
   all_goals(conv=>whnf)
   exact aE.yes (List.ext_getElem hl λi h1 h2=>h4 i h1 om)
 ·repeat' ((conv=>whnf);first|exact kQ|(refine bk ?_ ?_<;>intro _<;>try(exfalso;omega))|refine stq ?_)
  all_goals(conv=>whnf)
  exact aE.no (λhc=>hl (by rw[hc]))
theorem BM (rs:List Rng) (hr:rs.length<=40):(fx rs).length<=1000:=by
 have h:∀ (p:Int->Bool) (l:List Int) (o:List Rng) (op:Bool),(cmb p o op l).length<=o.length+l.length:=λp l=>by
  induction l with
  | nil=>intro o op;simp[cmb]
  | cons c l ih=>
   intro o op;simp only[cmb,kO];refine Nat.le_trans (ih _ _) ?_;split
   ·split
    ·split
     ·omega
     ·rename_i x hx;simp only[kG,List.length_dropLast,kO,List.length_nil]
      have:0<o.length:=List.length_pos_iff.2 (by rintro rfl;simp at hx)
      omega
    ·simp only[kG,kO,List.length_nil];omega
   ·omega
 have h1:=h (λc=>bM rs c) (bJ rs) [] false;have h2:=oO rs;have h3:fx rs=cmb (λc=>bM rs c) [] false (bJ rs):=rfl;rw[h3];simp only[List.length_nil] at h1;omega
theorem vo {rs:List Rng}(hr:rs.length<=40):Pu Tryz.prog 356 [fJ rs] (boo (decide (i7 rs))):=by
 have h1:=BM rs hr;have hS:=Same_c (a:=rs) (b:=fx rs) om om;rw[show decide (rs=fx rs)=decide (i7 rs) from by simp only[BN]] at hS;refine pv Tryz.func356 ?_;repeat' ((conv=>whnf);first|exact kQ|(refine bk ?_ ?_<;>intro _<;>try(exfalso;omega))|refine stq ?_|refine cp hS ?_|refine cp (zo sd) ?_|fail)
 all_goals(conv=>whnf)
 exact aE.same rfl rfl
end Go.Proofs.YtihggclfifimoaaGreatDoor
namespace Go.Proofs.YtihggclfifimoaaGreatDoor
open Go Go.Am Classical
theorem xHD.rbX {p:Prop}(h:p:=by first|exact Rb.map (Res.eqs (nA om) (yl _))|fail):p:=h
open xHD
variable [GT]
def D8 (a b:Mpg):Prop:=a.frm=b.frm∧a.tag=b.tag
abbrev wm (l:List Mpg):List (D×D):=l.map λm=>(F8 m,boo true)
theorem oK {h:aB}{m:Mpg}:∀ {l:List Mpg}{i:Nat},∃ r,bo h (F8 m) (wm l) i=some r∧((∃ x,x∈l∧D8 m x)∧(∃ j,r=some (j,boo true))∨(¬∃ x,x∈l∧D8 m x)∧r=none)
 | [],i=>⟨none,rfl,.inr ⟨by simp,rfl⟩⟩
 | x::l,i=>by
  simp only[wm,List.map_cons,bo,az,f9,iX,c5,if_true];by_cases h1:m.frm=x.frm
  ·by_cases h2:m.tag=x.tag
   ·rw[show(m.frm == x.frm&&m.tag == x.tag)=true from by simp[h1,h2]];exact⟨_,rfl,.inl ⟨⟨x,by simp,h1,h2⟩,i,rfl⟩⟩
   ·rw[show(m.frm == x.frm&&m.tag == x.tag)=false from by simp[h2]];obtain⟨r,h3,h4⟩:=oK (h:=h) (m:=m) (l:=l) (i:=i+1);refine⟨r,h3,h4.imp (λ⟨⟨y,hy,hk⟩,hr⟩=>⟨⟨y,by simp[hy],hk⟩,hr⟩) (λ⟨hn,hr⟩=>⟨?_,hr⟩)⟩;rintro⟨y,hy,hk⟩;rcases List.mem_cons.1 hy with rfl|hy
    ·exact h2 hk.2
    ·exact hn ⟨y,hy,hk⟩
  ·rw[show(m.frm == x.frm&&m.tag == x.tag)=false from by simp[h1]];obtain⟨r,h3,h4⟩:=oK (h:=h) (m:=m) (l:=l) (i:=i+1);refine⟨r,h3,h4.imp (λ⟨⟨y,hy,hk⟩,hr⟩=>⟨⟨y,by simp[hy],hk⟩,hr⟩) (λ⟨hn,hr⟩=>⟨?_,hr⟩)⟩;rintro⟨y,hy,hk⟩;rcases List.mem_cons.1 hy with rfl|hy
   ·exact h1 hk.1
   ·exact hn ⟨y,hy,hk⟩
theorem cB.key {h:aB}{m:Mpg}{l:List Mpg}{K:Option (Nat×D)->Prop}(yes:∀ i,(∃ x,x∈l∧D8 m x)->K (some (i,boo true))) (no:(¬∃ x,x∈l∧D8 m x)->K none):cB h (F8 m) (wm l) K:=by
 obtain⟨r,h1,h2⟩:=oK (h:=h) (m:=m) (l:=l) (i:=0);refine⟨r,h1,?_⟩;rcases h2 with⟨h3,j,rfl⟩|⟨h3,rfl⟩
 ·exact yes j h3
 ·exact no h3
theorem yl (l:List Mpg):∀ p∈wm l,aL p.1=true∧aL p.2=true:=by
 intro p hp;obtain⟨m,_,rfl⟩:=List.mem_map.1 hp;exact⟨rfl,rfl⟩
theorem dec_go {p:Prop}{inst:Decidable p}{F:¬p->Prop}{G:p->Prop}(hp:p) (go:G hp):Decidable.rec (motive:=λ_=>Prop) F G inst:=by
 cases inst with
 | isFalse h=>exact absurd hp h
 | isTrue h=>exact go
def Seen (l:List Mpg) (i:Nat) (h:i<l.length):Prop:=∃ x,x∈l.take i∧D8 l[i] x
theorem wY {l:List Mpg}(ho:E6 l):∃ e:Int,Pu Tryz.prog 180 [ag l] (i64 e)∧(e=0↔MOk l):=by
 have hlen:=ho.len;by_cases h0:dI l=0
 ·have hp:Pu Tryz.prog 299 [ag l] (i64 0):=h0▸zt ho;by_cases ha:Asc l
  ·refine⟨0,?_,λ_=>⟨h0,ha⟩,λ_=>rfl⟩;refine pv Tryz.func180 ?_;repeat' ((conv=>whnf);first|exact kQ|(refine bk ?_ ?_<;>intro _<;>try(exfalso;omega))|refine stq ?_|refine cp hp ?_|fail)
   refine aH.by aA T0 (λk:Nat=>⟨tmp 47 [(0,ag l),(4,boo true),(5,i64 ((k+1:Nat):Int))],⟨0,[]⟩⟩)
    (λk=>k<=l.length) (λk=>l.length-k) 0 om ?_ ?_
   ·exact lq0
   intro k h3;by_cases hk:k+1<l.length
   ·have hb:=Ac.2 (ha (k+1) hk om);simp only[Nat.add_sub_cancel] at hb;repeat' ((conv=>whnf);first|refine Idx.atS (sz:=3) (c:=iM) (by intro _;rfl) k om om ?_|refine Idx.atS (sz:=3) (c:=iM) (by intro _;rfl) (k+1) om om ?_|exact kQ|(refine bk ?_ ?_<;>intro _<;>try(exfalso;omega))|refine stq ?_|refine cp tD ?_|fail)
    all_goals(conv=>whnf)
    refine⟨k+1,by omega,by omega,?_⟩;exact lq0
   ·repeat' ((conv=>whnf);first|exact kQ|(refine bk ?_ ?_<;>intro _<;>try(exfalso;omega))|refine stq ?_)
    all_goals(conv=>whnf)
    exact aE.same rfl rfl
  ·refine⟨if ∃ i,∃ h:i<l.length,Seen l i h then 5 else 4,?_,λh=>by split at h<;>omega,λh=>absurd h.2 ha⟩;refine pv Tryz.func180 ?_;repeat' ((conv=>whnf);first|exact kQ|(refine bk ?_ ?_<;>intro _<;>try(exfalso;omega))|refine stq ?_|refine cp hp ?_|fail)
   refine aH.by2 aA T0 (λ(k:Nat) (b:Bool)=>⟨tmp 47 [(0,ag l),(4,boo b),(5,i64 ((k+1:Nat):Int))],⟨0,[]⟩⟩)
    (λk b=>k<=l.length∧(b=true->∀ i (h:i<l.length),i<=k->∀ h0:i≠0,bef (l[i-1]'(by omega)) l[i])) (λk _=>l.length-k) 0 true ⟨by omega,λ_ i h hi h0=>by omega⟩ ?_ ?_
   ·exact lq0
   intro k b ⟨h3,h4⟩;by_cases hk:k+1<l.length
   ·repeat' ((conv=>whnf);first|refine Idx.atS (sz:=3) (c:=iM) (by intro _;rfl) k om om ?_|refine Idx.atS (sz:=3) (c:=iM) (by intro _;rfl) (k+1) om om ?_|exact kQ|(refine bk ?_ ?_<;>intro _<;>try(exfalso;omega))|refine stq ?_|refine cp tD ?_|fail)
    all_goals(conv=>whnf)
    ·refine⟨k+1,false,⟨by omega,λh=>by cases h⟩,by omega,?_⟩;exact lq0
    ·rename_i hc;refine⟨k+1,b,⟨by omega,λhb i h hi h0=>?_⟩,by omega,?_⟩
     ·by_cases he:i=k+1
      ·subst he;have:=Ac.1 (Int.not_le.1 hc)
       simpa using this
      ·exact h4 hb i h om h0
     exact lq0
   ·have hbf:b=false:=by
     cases b with
     | false=>rfl
     | true=>exact absurd (λi h h0=>h4 rfl i h om h0) ha
    subst hbf;repeat' ((conv=>whnf);first|exact kQ|(refine bk ?_ ?_<;>intro _<;>try(exfalso;omega))|refine stq ?_|fail)
    refine aH.by aA T0 (λk:Nat=>⟨tmp 47 [(6,.map 0),(33,ag l),(34,i64 l.length),(35,i64 (k:Int))],⟨1,[(0,.map (wm (l.take k)))]⟩⟩)
     (λk=>k<=l.length∧∀ i (h:i<l.length),i<k->¬Seen l i h) (λk=>l.length-k) 0 ⟨by omega,λ_ _ h=>by omega⟩ ?_ ?_
    ·exact lq [(0,_)] []
    intro k ⟨h5,h6⟩;repeat' ((conv=>whnf);first|exact kQ|(refine bk ?_ ?_<;>intro _<;>try(exfalso;omega))|refine stq ?_|refine cp F7 ?_|refine dec_go (by kernel_rfl) ?_|(refine cB.key (λ_ _=>?_) (λ_=>?_)<;>(try contradiction)))
    all_goals(conv=>whnf)
    all_goals first
     | (rename_i hs;exact aE.int (by rw[if_pos ⟨k,by omega,hs⟩]))
     | exact aE.int (by rw[if_neg (λ⟨i,h,hs⟩=>h6 i h om hs)])
     | skip
    refine⟨k+1,⟨by omega,ad om h6 asm⟩,by omega,?_⟩;exact lq [(0,_)] []
 ·have hp:=zt ho;refine⟨dI l,?_,λh=>absurd h h0,λh=>h.1⟩;refine pv Tryz.func180 ?_;repeat' ((conv=>whnf);first|exact kQ|(refine bk ?_ ?_<;>intro _<;>try(exfalso;omega))|refine stq ?_|refine cp hp ?_|fail)
  all_goals(conv=>whnf)
  exact aE.same rfl rfl
end Go.Proofs.YtihggclfifimoaaGreatDoor
namespace Go.Proofs.YtihggclfifimoaaGreatDoor
open Go Go.Am Classical
theorem xHF.rbX {p:Prop}(h:p:=by first|exact Rb.cells (Rds.same hnb) rfl|fail):p:=h
open xHF
variable [GT]
end Go.Proofs.YtihggclfifimoaaGreatDoor
namespace Go.Proofs.YtihggclfifimoaaGreatDoor
open Go Go.Am Classical
variable [GT]
theorem oB (l:List Rng):aL (fJ l)=true:=by simp[aL,aK,aV]
theorem C4 {l:List Rng}:Pu Tryz.prog 11 [fJ l] (boo (decide (l.length<=12))):=by
 refine pv Tryz.func11 ?_;repeat' ((conv=>whnf);first|exact kQ|(refine bk ?_ ?_<;>intro _<;>try(exfalso;omega))|refine stq ?_)
 all_goals(conv=>whnf)
 all_goals first
  | exact aE.yes om
  | exact aE.no om
theorem Dm {l:List Mpg}(hlen:l.length<=9223372036854775807) (hto0:∀ i (h:i<l.length),l[i].to.length<=9223372036854775807∧l[i].tag.length<=9223372036854775807):Pu Tryz.prog 10 [ag l] (boo (decide (SmM l))):=by
 refine pv Tryz.func10 ?_;repeat' ((conv=>whnf);first|exact kQ|(refine bk ?_ ?_<;>intro _<;>try(exfalso;omega))|refine stq ?_)
 refine aH.by aA T0 (λk:Nat=>⟨tmp 33 [(0,ag l),(3,i64 (k:Int))],⟨0,[]⟩⟩)
  (λk=>(k<=l.length∧k<=30)∧∀ i (h:i<l.length),i<k->(i<30->l[i].to.length<=65∧l[i].tag.length<=40)) (λk=>l.length-k) 0 ⟨by omega,λ_ _ h=>by omega⟩ ?_ ?_
 ·exact lq0
 intro k ⟨⟨h3,h5⟩,h4⟩;by_cases hk:k<l.length
 ·have hto:=(hto0 k hk).1;have htg:=(hto0 k hk).2;by_cases hk3:k<30
  ·repeat' ((conv=>whnf);first|exact kQ|(refine bk ?_ ?_<;>intro _<;>try(exfalso;omega))|refine stq ?_)
   all_goals(conv=>whnf)
   all_goals first
    | exact aE.no (λhc=>by have:=hc.1 k hk hk3;omega)
    | (refine⟨k+1,⟨⟨by omega,by omega⟩,ad hk h4 (λ_=>by omega)⟩,by omega,?_⟩
       exact lq0)
  ·repeat' ((conv=>whnf);first|exact kQ|(refine bk ?_ ?_<;>intro _<;>try(exfalso;omega))|refine stq ?_)
   all_goals(conv=>whnf)
   all_goals first
    | exact aE.no (λhc=>by have:=hc.2;omega)
    | exact aE.yes ⟨λi h hi=>h4 i h om hi,by omega⟩
 ·repeat' ((conv=>whnf);first|exact kQ|(refine bk ?_ ?_<;>intro _<;>try(exfalso;omega))|refine stq ?_)
  all_goals(conv=>whnf)
  all_goals first
   | exact aE.no (λhc=>by have:=hc.2;omega)
   | exact aE.yes ⟨λi h hi=>h4 i h om hi,by omega⟩
end Go.Proofs.YtihggclfifimoaaGreatDoor
namespace Go.Am
open Go
variable [GT]
def noG (Q:Exit->St->Prop):Exit->St->Prop:=λe s=>match e with
 | .goto _=>False
 | e=>Q e s
theorem cm.scope {P:Program}{nb:Nat}{c:Code}{Q:Exit->St->Prop}{s:St}(h:cm P nb c (noG Q) s):cm P nb (.scope c) Q s:=
 ⟨⟨λcb hb c a R hB hf hR=>iQ (p9 (Q:=λe a w=>R e a w∧∀ l,e≠.goto l) (h.run.run cb hb c a _ hB hf λe s1 c1 a1 hq f1 b1 d1=>⟨hR e s1 c1 a1 (by cases e<;>first|exact hq|exact hq.elim) f1 b1 d1,by rintro l rfl;exact hq⟩) (λl _ _ h=>h.2 l rfl)) λ_ _ _ h=>h.1⟩⟩
theorem cm.lab {P:Program}{nb l:Nat}{y:Code}{Q:Exit->St->Prop}{s:St}(h:cm P nb y Q s):cm P nb (.seq (.label l) y) Q s:=
 ⟨.seq ⟨λ_ _ c a _ hB hf hR=>wpIn_label (hR .normal s c a h.run hf hB rfl)⟩⟩
end Go.Am
namespace Go.Proofs.YtihggclfifimoaaGreatDoor
open Go Go.Am Classical
set_option linter.unusedVariables false
theorem wL {α:Type}{f:α->D}(h:∀ x,one (f x)=true):∀ l:List α,gW (l.map f)=true
 | []=>rfl
 | x::l=>by simp[gW,h,wL h l]
theorem wy [GT] {h:aB}{fz:Nat->Bool}{σ:Nat->Option Nat}{id n cap:Nat}{b:List Int}{cs:List D}{ex bx:Bool}(hf:fz id=true) (hg:h.get id=some (.cells cs bx)) (ec:cs=b.map i64) (e:n=b.length):Rd h fz σ (.sl id 0 n cap 1 ex) (aF b):=by
 subst e;subst ec;refine .frz hf hg si (.eqs ?_ (aN (λ_=>rfl) _));rw[List.drop_zero,kE si]
theorem cat_1 {k N:Nat}(h:k<=N):0+Int.toNat 0*1+(((0:Int)-0).toNat+k)*1<=(cx [i64 0] N).length:=by rw[@cY];simp;omega
theorem cat_2 {a:List Int}{k N:Nat}(h:a.length+k<=N):0+Int.toNat 0*1+(((0:Int)-0).toNat+a.length+k)*1<=(splice (cx [i64 0] N) (0+Int.toNat 0*1+((0:Int)-0).toNat*1) (a.map i64)).length:=by
 rw[@cY];simp[splice];omega
theorem cat_3 {a b:List Int}{N:Nat}(h:N=a.length+b.length):splice (splice (cx [i64 0] N) (0+Int.toNat 0*1+((0:Int)-0).toNat*1) (a.map i64)) (0+Int.toNat 0*1+(((0:Int)-0).toNat+a.length)*1) (b.map i64)=(a++b).map i64:=by
 subst h;rw[@cY];simp[splice]
theorem xw {a b:List Int}(h:a.length+b.length<=10000):Pu Tryz.prog 26 [.imm 2 [aF a,aF b]] (aF (a++b)):=by
 by_cases hz:a.length+b.length=0
 ·obtain rfl:a=[]:=List.length_eq_zero_iff.1 om;obtain rfl:b=[]:=List.length_eq_zero_iff.1 om;refine pv Tryz.func26 ?_;repeat' ((conv=>whnf);first|exact kQ|(refine bk ?_ ?_<;>intro _<;>try(exfalso;omega))|refine stq ?_|refine aH.times aA T0 3 ?_|refine Idx.mk (by decide) (by decide) rfl ?_|(apply Cll.inl aA T0 Tryz.func83 rfl rfl ?_;rotate_left)|refine dC.lst ?_|exact⟨Or.inr rfl,rfl,rfl⟩|fail)
  all_goals(conv=>whnf)
  all_goals first
   | (exfalso;simp at *;done)
   | exact⟨Rd.nil⟩
 ·refine pv Tryz.func26 ?_;repeat' ((conv=>whnf);first|exact kQ|(refine bk ?_ ?_<;>intro _<;>try(exfalso;omega))|refine stq ?_|refine aH.times aA T0 3 ?_|refine Idx.mk (by decide) (by decide) rfl ?_|refine Chk.mk ⟨by omega,by omega,(by show _*8<=1099511627776;omega),(by show 0<1;omega)⟩ ?_|refine dC.lst ?_|refine Chk.mk (wL (λ_=>rfl) _) ?_|refine Chk.mk (cat_1 om) ?_|refine Chk.mk (cat_2 om) ?_|(apply Cll.inl aA T0 Tryz.func83 rfl rfl ?_;rotate_left)|exact⟨Or.inr rfl,rfl,rfl⟩|fail)
  all_goals(conv=>whnf)
  exact⟨wy (b:=a++b) rfl rfl (cat_3 om) si⟩
end Go.Proofs.YtihggclfifimoaaGreatDoor
