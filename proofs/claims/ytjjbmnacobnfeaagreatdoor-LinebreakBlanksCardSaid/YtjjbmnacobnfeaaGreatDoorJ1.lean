/-
  Contracts of functions over data: the actions at all positions of a text, by a database.
-/
import Derived.Test.YtjjbmnacobnfeaaGreatDoorHI
import Derived.Test.YtjjbmnacobnfeaaGreatDoorHE
import Derived.Test.YtjjbmnacobnfeaaGreatDoorHM
set_option linter.unusedSectionVars false
namespace Go.Proofs.YtjjbmnacobnfeaaGreatDoor
section
open Go Go.Am Classical
set_option maxRecDepth 100000
noncomputable instance gtI:GT:=gtR
theorem gP {p:Prp}{text:List Int}:(iY p t4 text).length=text.length+1:=by
 rw[iY,if_pos tv4.1,mZ];simp[bI]
theorem mH {d:Db}{text:List Int}(ho:d.ok) (hs:SmD d) (hv:DbV d) (hx:text.length≤1000):@Pu gtR Tryz.prog 12 [dbD d,aa text] (.tup [aa (iY d.lin t4 text),i64 0]):=by
 letI:=gtR
 obtain⟨e,he,hi⟩:=iU ho hs
 obtain rfl:=hi.2 hv
 have hsm:=hs.2.1 6 (by omega)
 have hp:Pu Tryz.prog 30 [dbD d,i64 6] (fW d.lin):=xH (fun k hk=>hs.2.1 k hk) 6 (by omega)
 have hA:=oz (p:=d.lin) (t:=t4) (text:=text) (ho.prop 6) tv4.2 (by have:=hsm.1;simp only[prop] at this;omega) (by have:=hsm.2;simp only[prop] at this;omega) hx
 have hT:=wR
 refine Pu.of_v aA T0 Tryz.func12 rfl rfl (by simp[aM,aD,aF,aH,aK,aJ,aN]) ?_
 repeat' ((conv=>whnf)<;>(first|refine aB.go aA T0 ?_|exact True.intro|(refine Br.mk (fun _=>?_) (fun _=>?_)<;>(try(exfalso;omega)))|refine stq ?_|refine Cll.pu (he) ?_|refine aG.pu (he) ?_|refine Cll.pu (hp) ?_|refine aG.pu (hp) ?_|refine Cll.pu (hT) ?_|refine aG.pu (hT) ?_|refine Cll.pu (hA) ?_|refine aG.pu (hA) ?_))
 all_goals(conv=>whnf)
 exact⟨Rd.eqd rfl (by simp[aM,aD,aN])⟩
theorem ww {d:Db}{text:List Int}(ho:d.ok) (hs:SmD d) (hv:¬DbV d):@Pu gtR Tryz.prog 12 [dbD d,aa text] (.tup [ac,i64 11]):=by
 letI:=gtR
 obtain⟨e,he,hi⟩:=iU ho hs
 have h0:e≠0:=fun h=>hv (hi.1 h)
 refine Pu.of_v aA T0 Tryz.func12 rfl rfl (by simp[aM,aD,aF,aH,aK,aJ,aN]) ?_
 repeat' ((conv=>whnf)<;>(first|refine aB.go aA T0 ?_|exact True.intro|(refine Br.mk (fun _=>?_) (fun _=>?_)<;>(try(exfalso;omega)))|refine stq ?_|refine Cll.pu (he) ?_|refine aG.pu (he) ?_))
 all_goals(conv=>whnf)
 exact⟨Rd.eqd rfl rfl⟩
end
section
open Go Go.Am Classical
set_option maxRecDepth 100000
theorem kJ {d:Db}(ho:d.ok) (hs:SmD d):@Pu gtR Tryz.prog 18 [dbD d] (boo true):=by
 letI:=gtR
 have h:=uU ho
 rwa [decide_eq_true hs] at h
theorem ly {d:Db}(ho:d.ok) (hs:¬SmD d):@Pu gtR Tryz.prog 18 [dbD d] (boo false):=by
 letI:=gtR
 have h:=uU ho
 rwa [decide_eq_false hs] at h
theorem seg_c {d:Db}{text:List Int}(ho:d.ok) (hx:text.length≤9223372036854775807):@Pu gtR Tryz.prog 6 [dbD d,aa text] (boo true):=by
 letI:=gtR
 have hal:=oT
 by_cases hs:SmD d
 ·have hS:=kJ ho hs
  obtain⟨e,he,hi⟩:=eX ho hs
  by_cases h40:text.length≤40
  ·by_cases hv:DbV d
   ·obtain rfl:=hi.2 hv
    have hA:=mH (text:=text) ho hs hv (by omega)
    have hsm:=hs.2.1 6 (by omega)
    have hB:=oz (p:=d.lin) (t:=t4) (text:=text) (ho.prop 6) tv4.2 (by have:=hsm.1;simp only[prop] at this;omega) (by have:=hsm.2;simp only[prop] at this;omega) (by omega)
    have hT:=wR
    have hl:=gP (p:=d.lin) (text:=text)
    have hE:Pu Tryz.prog 14 [aa (iY d.lin t4 text),aa (iY d.lin t4 text)] (boo true):=by
     have h:=C7 (a:=iY d.lin t4 text) (b:=iY d.lin t4 text) (by omega)
     rwa [decide_eq_true rfl] at h
    refine Pu.of_v aA T0 Tryz.func6 rfl rfl (by simp[aM,aD,aF,aH,aK,aJ,aN]) ?_
    repeat' ((conv=>whnf)<;>(first|refine aB.go aA T0 ?_|exact True.intro|(refine Br.mk (fun _=>?_) (fun _=>?_)<;>(try(exfalso;omega)))|refine stq ?_|refine Cll.pu (hS) ?_|refine aG.pu (hS) ?_|refine Cll.pu (he) ?_|refine aG.pu (he) ?_|refine Cll.pu (hA) ?_|refine aG.pu (hA) ?_|refine Cll.pu (hT) ?_|refine aG.pu (hT) ?_|refine Cll.pu (hB) ?_|refine aG.pu (hB) ?_|refine Cll.pu (hE) ?_|refine aG.pu (hE) ?_|refine Cll.pu (hal) ?_|refine aG.pu (hal) ?_))
    all_goals(conv=>whnf)
    exact aI.same rfl rfl
   ·have h0:e≠0:=fun h=>hv (hi.1 h)
    refine Pu.of_v aA T0 Tryz.func6 rfl rfl (by simp[aM,aD,aF,aH,aK,aJ,aN]) ?_
    repeat' ((conv=>whnf)<;>(first|refine aB.go aA T0 ?_|exact True.intro|(refine Br.mk (fun _=>?_) (fun _=>?_)<;>(try(exfalso;omega)))|refine stq ?_|refine Cll.pu (hS) ?_|refine aG.pu (hS) ?_|refine Cll.pu (he) ?_|refine aG.pu (he) ?_|refine Cll.pu (hal) ?_|refine aG.pu (hal) ?_))
    all_goals(conv=>whnf)
    exact aI.same rfl rfl
  ·refine Pu.of_v aA T0 Tryz.func6 rfl rfl (by simp[aM,aD,aF,aH,aK,aJ,aN]) ?_
   repeat' ((conv=>whnf)<;>(first|refine aB.go aA T0 ?_|exact True.intro|(refine Br.mk (fun _=>?_) (fun _=>?_)<;>(try(exfalso;omega)))|refine stq ?_|refine Cll.pu (hS) ?_|refine aG.pu (hS) ?_|refine Cll.pu (hal) ?_|refine aG.pu (hal) ?_))
   all_goals(conv=>whnf)
   exact aI.same rfl rfl
 ·have hS:=ly ho hs
  refine Pu.of_v aA T0 Tryz.func6 rfl rfl (by simp[aM,aD,aF,aH,aK,aJ,aN]) ?_
  repeat' ((conv=>whnf)<;>(first|refine aB.go aA T0 ?_|exact True.intro|(refine Br.mk (fun _=>?_) (fun _=>?_)<;>(try(exfalso;omega)))|refine stq ?_|refine Cll.pu (hS) ?_|refine aG.pu (hS) ?_|refine Cll.pu (hal) ?_|refine aG.pu (hal) ?_))
  all_goals(conv=>whnf)
  exact aI.same rfl rfl
end
section
open Go Go.Am Classical
set_option maxRecDepth 100000
abbrev spS:Str:=[83,112,97,99,101]
abbrev zsS:Str:=[90,101,114,111,83,112,97,99,101]
theorem Cs:(BC (List.range LN4.length) (Ar RN4 5) (fun x y=>!ibe (BD (rs4.map (·.act)) LM4 RM4 x y) 2)&&BC (List.range LN4.length) (Ar RN4 6) (fun x y=>!ibe (BD (rs4.map (·.act)) LM4 RM4 x y) 2))=true:=by kernel_rfl
theorem A7 {l:List Int}(hc:CL l cl4.length){k c:Nat}(hk:k<l.length) (h56:c=5∨c=6) (e:l[k]=(c:Int)):(acts t4 l).getD k 0≠2:=by
 letI:=gtR
 have hb:=Cs
 simp only[Bool.and_eq_true] at hb
 have ea:(acts t4 l).getD k 0=BE t4 l k:=by
  rw[aW (by rw[mZ];omega)]
  simp[acts]
 rw[ea]
 obtain⟨x,m1,e1⟩:=CK tv4.1 hc (k:=k) (by omega)
 have key:∀ c':Nat,c'=c→BC (List.range LN4.length) (Ar RN4 c') (fun x y=>!ibe (BD (rs4.map (·.act)) LM4 RM4 x y) 2)=true→BE t4 l k≠2:=fun c' hc' hb=>by
  subst hc'
  obtain⟨y,m2,e2⟩:=xr tv4.1 hc hk e
  have:=Cz hb (List.mem_range.2 m1) m2
  rw[t4] at *
  rw[BE,e1,e2,C3]
  intro h
  rw[mL.2 h] at this
  cases this
 rcases h56 with rfl|rfl
 ·exact key 5 rfl hb.1
 ·exact key 6 rfl hb.2
theorem sp_B:(List.range 28).all (fun n=>(!(cl4.getD n [] == spS) || Nat.beq n 5)&&(!(cl4.getD n [] == zsS) || Nat.beq n 6))=true:=by kernel_rfl
theorem DK (n:Nat) (h:n<cl4.length):(cl4[n]=spS→n=5)∧(cl4[n]=zsS→n=6):=by
 have hb:=List.all_eq_true.1 sp_B n (List.mem_range.2 h)
 rw[aW h] at hb
 simp only[Bool.and_eq_true,Bool.or_eq_true,Bool.not_eq_true',beq_eq_false_iff_ne] at hb
 exact⟨fun e=>Nat.eq_of_beq_eq_true (hb.1.resolve_left (fun hn=>hn e)),fun e=>Nat.eq_of_beq_eq_true (hb.2.resolve_left (fun hn=>hn e))⟩
theorem blk_c {d:Db}{text:List Int}(ho:d.ok) (hx:text.length≤9223372036854775807):@Pu gtR Tryz.prog 7 [dbD d,aa text] (boo true):=by
 letI:=gtR
 have hal:=oT
 by_cases hs:SmD d
 ·have hS:=kJ ho hs
  obtain⟨e,he,hi⟩:=eX ho hs
  by_cases h40:text.length≤40
  ·by_cases hv:DbV d
   ·obtain rfl:=hi.2 hv
    have hA:=mH (text:=text) ho hs hv (by omega)
    have hl:=gP (p:=d.lin) (text:=text)
    have hC:=cls4
    have hN:Pu Tryz.prog 25 [fW d.lin,strs cl4,aa text] (aa (bI d.lin cl4 text)):=xa (ho.prop 6) (by decide) (by omega)
    have hnl:(bI d.lin cl4 text).length=text.length:=by simp[bI]
    have hCL:CL (bI d.lin cl4 text) cl4.length:=pO (t:=t4) tv4.1
    have hcl:cl4.length=28:=rfl
    have hact:iY d.lin t4 text=acts t4 (bI d.lin cl4 text):=by rw[iY,if_pos tv4.1];rfl
    refine Pu.of_v aA T0 Tryz.func7 rfl rfl (by simp[aM,aD,aF,aH,aK,aJ,aN]) ?_
    repeat' ((conv=>whnf)<;>(first|refine aB.go aA T0 ?_|exact True.intro|(refine Br.mk (fun _=>?_) (fun _=>?_)<;>(try(exfalso;omega)))|refine stq ?_|refine Cll.pu (hS) ?_|refine aG.pu (hS) ?_|refine Cll.pu (he) ?_|refine aG.pu (he) ?_|refine Cll.pu (hC) ?_|refine aG.pu (hC) ?_|refine Cll.pu (hN) ?_|refine aG.pu (hN) ?_|refine Cll.pu (hA) ?_|refine aG.pu (hA) ?_|fail))
    generalize iY d.lin t4 text=av at *
    generalize bI d.lin cl4 text=nv at *
    refine aT.by aA T0 (fun k:Nat=>⟨tmp 87 [(1,aa text),(5,strs cl4),(6,aa nv),(7,aa av),(9,i64 ((k+1:Nat):Int))],⟨0,[]⟩⟩)
     (fun k=>k≤text.length) (fun k=>text.length-k) 0 (by omega) ?_ ?_
    ·exact Lf.of2 [] [] enA bxA rfl rfl
    intro k h3
    by_cases hk:k+1<text.length
    ·have hq:=hCL (k+1) (by omega)
     obtain⟨n,hn⟩:∃ n:Nat,nv[k+1]'(by omega)=(n:Int):=⟨(nv[k+1]'(by omega)).toNat,by omega⟩
     have hn28:n<cl4.length:=by omega
     have hbad:cl4[n]=spS∨cl4[n]=zsS→¬av[k+1]'(by omega)=2:=fun h=>by
      have h56:n=5∨n=6:=h.imp (DK n hn28).1 (DK n hn28).2
      have:=A7 hCL (k:=k+1) (by omega) h56 hn
      rw[←hact,aW (by omega)] at this
      exact this
     repeat' ((conv=>whnf)<;>(first|refine Idx.at (f:=i64) (l:=av) (k+1) (by omega) (by omega) ?_|refine Idx.at (f:=i64) (l:=nv) (k+1) (by omega) (by omega) ?_|refine Idx.at (f:=D.str) (l:=cl4) n (by omega) (by omega) ?_|refine aB.go aA T0 ?_|exact True.intro|(refine Br.mk (fun _=>?_) (fun _=>?_)<;>(try(exfalso;omega)))|refine stq ?_))
     all_goals(conv=>whnf)
     all_goals first
      | (exfalso;exact hbad (.inl (by assumption)) (by assumption))
      | (exfalso;exact hbad (.inr (by assumption)) (by assumption))
      | (refine⟨k+1,by omega,by omega,?_⟩
         exact Lf.of2 [] [] enA bxA rfl rfl)
    ·repeat' ((conv=>whnf)<;>(first|refine aB.go aA T0 ?_|exact True.intro|(refine Br.mk (fun _=>?_) (fun _=>?_)<;>(try(exfalso;omega)))|refine stq ?_|refine Cll.pu (hal) ?_|refine aG.pu (hal) ?_))
     all_goals(conv=>whnf)
     exact aI.same rfl rfl
   ·have h0:e≠0:=fun h=>hv (hi.1 h)
    refine Pu.of_v aA T0 Tryz.func7 rfl rfl (by simp[aM,aD,aF,aH,aK,aJ,aN]) ?_
    repeat' ((conv=>whnf)<;>(first|refine aB.go aA T0 ?_|exact True.intro|(refine Br.mk (fun _=>?_) (fun _=>?_)<;>(try(exfalso;omega)))|refine stq ?_|refine Cll.pu (hS) ?_|refine aG.pu (hS) ?_|refine Cll.pu (he) ?_|refine aG.pu (he) ?_|refine Cll.pu (hal) ?_|refine aG.pu (hal) ?_))
    all_goals(conv=>whnf)
    exact aI.same rfl rfl
  ·refine Pu.of_v aA T0 Tryz.func7 rfl rfl (by simp[aM,aD,aF,aH,aK,aJ,aN]) ?_
   repeat' ((conv=>whnf)<;>(first|refine aB.go aA T0 ?_|exact True.intro|(refine Br.mk (fun _=>?_) (fun _=>?_)<;>(try(exfalso;omega)))|refine stq ?_|refine Cll.pu (hS) ?_|refine aG.pu (hS) ?_|refine Cll.pu (hal) ?_|refine aG.pu (hal) ?_))
   all_goals(conv=>whnf)
   exact aI.same rfl rfl
 ·have hS:=ly ho hs
  refine Pu.of_v aA T0 Tryz.func7 rfl rfl (by simp[aM,aD,aF,aH,aK,aJ,aN]) ?_
  repeat' ((conv=>whnf)<;>(first|refine aB.go aA T0 ?_|exact True.intro|(refine Br.mk (fun _=>?_) (fun _=>?_)<;>(try(exfalso;omega)))|refine stq ?_|refine Cll.pu (hS) ?_|refine aG.pu (hS) ?_|refine Cll.pu (hal) ?_|refine aG.pu (hal) ?_))
  all_goals(conv=>whnf)
  exact aI.same rfl rfl
end
section
open Go Go.Am Classical
set_option maxRecDepth 100000
abbrev manS:Str:=[77,97,110,100,97,116,111,114,121]
abbrev crS:Str:=[67,82]
abbrev lfS:Str:=[76,70]
abbrev nlS:Str:=[78,101,119,108,105,110,101]
def hid (s:Str):Prop:=s=spS∨s=manS∨s=crS∨s=lfS∨s=nlS∨s=zsS
theorem AV (s:Str):@Pu gtR Tryz.prog 45 [.str s] (boo (decide (hid s))):=by
 letI:=gtR
 refine Pu.of_v aA T0 Tryz.func45 rfl rfl rfl ?_
 repeat' ((conv=>whnf)<;>(first|refine aB.go aA T0 ?_|exact True.intro|(refine Br.mk (fun _=>?_) (fun _=>?_)<;>(try(exfalso;omega)))|refine stq ?_))
 all_goals(conv=>whnf)
 all_goals first
  | exact aI.yes (.inl (by assumption))
  | exact aI.yes (.inr (.inl (by assumption)))
  | exact aI.yes (.inr (.inr (.inl (by assumption))))
  | exact aI.yes (.inr (.inr (.inr (.inl (by assumption)))))
  | exact aI.yes (.inr (.inr (.inr (.inr (.inl (by assumption))))))
  | exact aI.yes (.inr (.inr (.inr (.inr (.inr (by assumption))))))
  | exact aI.no (fun hc=>by rcases hc with h|h|h|h|h|h<;>contradiction)
noncomputable def nm4 (n:Int):Str:=cl4.getD n.toNat []
theorem zr {n:Nat}(h:n<cl4.length):nm4 (n:Int)=cl4[n]:=by
 simp only[nm4,Int.toNat_natCast,aW h]
noncomputable def cq (nv:List Int) (a:Nat):Nat→Nat
 | 0=>0
 | k+1=>if a≤k∧hid (nm4 (nv.getD k 0)) then cq nv a k else k+1
theorem wM (nv:List Int) (a:Nat):∀ k,cq nv a k≤k
 | 0=>Nat.le_refl _
 | k+1=>by
  simp only[cq]
  split
  ·have:=wM nv a k;omega
  ·omega
theorem wN (nv:List Int) (a:Nat):∀ k,a≤k→a≤cq nv a k
 | 0=>fun h=>h
 | k+1=>fun h=>by
  simp only[cq]
  split
  ·rename_i hc;exact wN nv a k hc.1
  ·exact h
theorem qg (nv:List Int) (a:Nat):∀ k,cq nv a (cq nv a k)=cq nv a k
 | 0=>rfl
 | k+1=>by
  simp only[cq]
  split
  ·exact qg nv a k
  ·rename_i hc;simp only[cq];rw[if_neg hc]
theorem qe {nv:List Int}{a k:Nat}(h:a≤k) (hq:hid (nm4 (nv.getD k 0))):cq nv a (k+1)=cq nv a k:=by
 simp only[cq];rw[if_pos ⟨h,hq⟩]
theorem qf {nv:List Int}{a k:Nat}(hq:¬hid (nm4 (nv.getD k 0))):cq nv a (k+1)=k+1:=by
 simp only[cq];rw[if_neg fun h=>hq h.2]
theorem tH {nv:List Int}{a k:Nat}(h:k≤a):cq nv a k=k:=by
 cases k with
 | zero=>rfl
 | succ k=>simp only[cq];rw[if_neg fun h=>by have:=h.1;omega]
noncomputable abbrev nvL (d:Db) (text:List Int):List Int:=bI d.lin cl4 text
theorem gZ (d:Db) (text:List Int):(nvL d text).length=text.length:=by simp[bI]
theorem CB {d:Db}{text:List Int}{k:Nat}(h:k<text.length):(nvL d text).getD k 0=gS cl4 (nh d.lin text[k]):=by
 rw[aW (by rw[gZ];exact h)];simp[bI]
theorem zn {d:Db}{text:List Int}{k:Nat}(h:k<text.length):∃ n:Nat,n<cl4.length∧(nvL d text).getD k 0=(n:Int):=by
 letI:=gtR
 have hq:=pO (p:=d.lin) (text:=text) (t:=t4) tv4.1 k (by rw[←gZ d text] at h;exact h)
 have hcl:t4.classes.length=28:=rfl
 have hcl':cl4.length=28:=rfl
 rw[aW (by rw[gZ];exact h)]
 refine⟨((nvL d text)[k]'(by rw[gZ];exact h)).toNat,?_,?_⟩
 ·have h2:=hq.2
  have h1:=hq.1
  simp only[hcl] at h2
  show((bI d.lin t4.classes text)[k]'(by rw[←gZ d text] at h;exact h)).toNat<_
  omega
 ·have h1:=hq.1
  show((bI d.lin t4.classes text)[k]'(by rw[←gZ d text] at h;exact h))=((((bI d.lin t4.classes text)[k]'(by rw[←gZ d text] at h;exact h)).toNat:Nat):Int)
  omega
theorem mP [GT] {h:aC}{fz:Nat→Bool}{σ:Nat→Option Nat}{id n cap:Nat}{b:List Int}{cs:List D}{ex bx:Bool}(hf:fz id=true) (hg:h.get id=some (.cells cs bx)) (ec:cs=b.map i64) (e:n=b.length):Rd h fz σ (.sl id 0 n cap 1 ex) (aa b):=by
 subst e;subst ec
 refine .frz hf hg (by simp) (.eqs ?_ (aZ (fun _=>rfl) _))
 rw[List.drop_zero,List.take_of_length_le (by simp)]
theorem Cr {d:Db}{text:List Int}{k:Nat}(ho:d.ok) (h:k<text.length):@Pu gtR Tryz.prog 46 [dbD d,i64 text[k]] (boo (decide (hid (nm4 ((nvL d text).getD k 0))))):=by
 letI:=gtR
 have hC:=rcls4
 have hN:Pu Tryz.prog 25 [fW d.lin,strs cl4,aa [text[k]]] (aa (bI d.lin cl4 [text[k]])):=xa (ho.prop 6) (by decide) (by simp)
 have hn1:bI d.lin cl4 [text[k]]=[(nvL d text).getD k 0]:=by rw[CB h];rfl
 obtain⟨n,hn,e⟩:=zn (d:=d) h
 rw[hn1,e] at hN
 rw[e,zr hn]
 refine Pu.of_v aA T0 Tryz.func46 rfl rfl (by simp[aM,aD,aF,aH,aK,aJ]) ?_
 have hnp:=kT d.lin
 repeat' ((conv=>whnf)<;>(first|refine Idx.at (f:=D.str) (l:=cl4) n (by omega) (by omega) ?_|refine aB.go aA T0 ?_|exact True.intro|(refine Br.mk (fun _=>?_) (fun _=>?_)<;>(try(exfalso;omega)))|refine stq ?_|refine Cll.pu (hC) ?_|refine aG.pu (hC) ?_|refine Cll.emb (hN ⟨0,[]⟩) [] [9] (aa [(n:Int)]) [] [(0,.cells (dbC d) true)] rfl (by(repeat(first|exact Rds.nil|refine Rds.cons (by first|exact mP rfl rfl rfl rfl|exact Rd.eqd rfl hnp|exact rdA|fail) ?_|fail));(first|done|fail)) (by(repeat(first|exact Bxs.nil|refine Bxs.cons rfl rfl rfl (by first|exact rbB|exact Rb.cells (by(repeat(first|exact Rds.nil|refine Rds.cons (by first|exact mP rfl rfl rfl rfl|exact Rd.eqd rfl hnp|exact rdA|fail) ?_|fail));(first|done|fail)) rfl|exact rbC|fail) ?_|fail));(first|done|fail)) (by first|exact mP rfl rfl rfl rfl|exact Rd.eqd rfl hnp|exact rdA|fail) (by(repeat(first|exact Bxs.nil|refine Bxs.cons rfl rfl rfl (by first|exact rbB|exact Rb.cells (by(repeat(first|exact Rds.nil|refine Rds.cons (by first|exact mP rfl rfl rfl rfl|exact Rd.eqd rfl hnp|exact rdA|fail) ?_|fail));(first|done|fail)) rfl|exact rbC|fail) ?_|fail));(first|done|fail)) (by(repeat(first|exact bB.nil|refine bB.cons rfl rfl rfl ?_|fail));(first|done|fail)) ?_))
 all_goals(conv=>whnf)
 all_goals first
  | exact aI.yes (.inl (by assumption))
  | exact aI.yes (.inr (.inl (by assumption)))
  | exact aI.yes (.inr (.inr (.inl (by assumption))))
  | exact aI.yes (.inr (.inr (.inr (.inl (by assumption)))))
  | exact aI.yes (.inr (.inr (.inr (.inr (.inl (by assumption))))))
  | exact aI.yes (.inr (.inr (.inr (.inr (.inr (by assumption))))))
  | exact aI.no (fun hc=>by rcases hc with h|h|h|h|h|h<;>contradiction)
end
end Go.Proofs.YtjjbmnacobnfeaaGreatDoor
