/-
  Contracts of functions over data: steps of nets.
-/
import Derived.Test.YtbmdndckndnehaaGreatDoorC4
set_option linter.unusedSectionVars false
namespace Go.Proofs.YtbmdndckndnehaaGreatDoor
section
open Go Go.Am Classical
set_option maxRecDepth 100000
theorem xC5.rdX {p:Prop}(h:p:=by first|exact Rd.same (e8 _ _)|exact Rd.sl' rfl om om|exact Rd.sl' rfl (by first|(rw[<-hy];done)|fail) (by first|(rw[<-hy];done)|fail)|exact Rd.sl' rfl sim sim|exact Rd.own (l:=(x::xs)++ns[set[k]].to) sim rfl sim sim|fail):p:=h
theorem xC5.rbX {p:Prop}(h:p:=by first|exact Rb.cells (Rds.eqs (gro (x::xs) ns[set[k]].to rfl (Nat.mul_one _)) (aE (by intro _;rfl) _)) rfl|exact Rb.cells (Rds.eqs (by first|(rw[hy,aO];done)|fail) (aE (by intro _;rfl) _)) rfl|exact Rb.cells (Rds.eqs (by first|(rw[hy];simp[splice];done)|fail) (aE (by intro _;rfl) _)) rfl|fail):p:=h
open xC5
variable [GT]
theorem xE {ns:List Nd}{b:Bool}(hl:ns.length<=100000):Pu Tryz.prog 161 [iC ns b,aI] (cx []):=by
 refine pv Tryz.func161 ?_;repeat' ((conv=>whnf);first|exact kQ|(refine bk ?_ ?_<;>intro _<;>try(exfalso;omega))|refine stq ?_|refine cp xZ ?_|(apply Cll.inl aB T0 Tryz.func190 rfl rfl ?_;rotate_left)|exact⟨Or.inr rfl,rfl,rfl⟩|refine aH.times aB T0 1 ?_|fail)
 all_goals(conv=>whnf)
 exact⟨.nil⟩
def gat (ns:List Nd) (c:Int):List Nat->List Nat
 | []=>[]
 | i::l=>(match ns[i]? with|some n=>if c∈n.cls then n.to else []|none=>[])++gat ns c l
theorem mG {ns:List Nd}{c:Int}:∀ l m,gat ns c (l++m)=gat ns c l++gat ns c m
 | [],_=>rfl
 | i::l,m=>by simp[gat,mG l m]
def stp (ns:List Nd) (F:Nat) (set:List Nat) (c:Int):Option (List Nat):=
 if set=[0] then some [0] else
 match gat ns c set with
 | []=>some []
 | x::xs=>clo ns F [] (x::xs).reverse []
theorem Bf (l:List Nat):cx l=aF (l.map λk:Nat=>(k:Int)):=by simp[lst]
theorem AU {l:List Nat}(hl:l.length<=1000000):Pu Tryz.prog 158 [cx l] (boo (decide (l=[0]))):=by
 rw[Bf];have h:=G7 (l:=l.map λk:Nat=>(k:Int)) (by simpa using hl)
 rwa [show decide (l=[0])=decide ((l.map λk:Nat=>(k:Int))=[0]) from by
  congr 1;apply propext
  match l with
  | []=>simp
  | [x]=>simp
  | x::y::l=>simp]
theorem rF {ns:List Nd}{c:Int}{l:List Nat}{k:Nat}(h:k<l.length) (hk:l[k]<ns.length):gat ns c (l.take (k+1))=gat ns c (l.take k)++(if c∈ns[l[k]].cls then ns[l[k]].to else []):=by
 rw[bN h,mG];simp[gat,List.getElem?_eq_getElem hk]
theorem AO {ns:List Nd}{c:Int}{l:List Nat}(k:Nat):(gat ns c (l.take k)).length<=(gat ns c l).length:=by
 conv=>rhs;rw[<-List.take_append_drop k l,mG]
 simp
theorem gro (a c:List Nat){z m:Nat}(hz:z=0) (hm:m=a.length):((a.flatMap λk=>[cF k]).drop z).take m++(c.map λk:Nat=>i64 (k:Int))=(a++c).flatMap λk=>[cF k]:=by
 subst hz;subst hm;rw[List.drop_zero,kE (by rw[aO];simp),List.flatMap_append,aO c]
theorem Cx {ns:List Nd}{b:Bool}{set r:List Nat}{c:Int}{F:Nat}(hF:F<=100000) (hl:ns.length<=100000) (hset:∀ i (h:i<set.length),set[i]<ns.length) (hn:set.length<=100000) (hcl:∀ i (h:i<ns.length),ns[i].cls.length<=1000000)
  (hg:(gat ns c set).length<=100000) (h:stp ns F set c=some r):Pu Tryz.prog 159 [iC ns b,cx set,i64 c] (cx r):=by
 refine pv Tryz.func159 ?_;unfold stp at h;repeat' ((conv=>whnf);first|exact kQ|(refine bk ?_ ?_<;>intro _<;>try(exfalso;omega))|refine stq ?_|refine cd (AU sd) (λ_=>?_) (λ_=>?_)|fail)
 all_goals(conv=>whnf)
 ·rename_i he;rw[if_pos he] at h;injection h with h;subst h
  subst he;exact aC.same (bn _) rfl
 rename_i he;rw[if_neg he] at h
 refine aH.by2 aB T0 (λ(k:Nat) (o:List Nat)=>⟨tmp 43 [(0,iC ns b),(2,i64 c),(7,aS 0 1 o),(13,cx set),(14,i64 set.length),(15,i64 (k:Int))],⟨1,bq 0 (λk=>[cF k]) o⟩⟩)
  (λk o=>k<=set.length∧o=gat ns c (set.take k)) (λk _=>set.length-k) 0 [] ⟨by omega,rfl⟩ ?_ ?_
 ·exact lq0
 intro k o ⟨h3,h4⟩;have ho:=AO (ns:=ns) (c:=c) (l:=set) k;rw[<-h4] at ho;by_cases hk:k<set.length
 ·have h5:=hset k hk;have h6:=hcl _ h5;have h7:=AO (ns:=ns) (c:=c) (l:=set) (k+1);rw[rF hk h5,<-h4] at h7;by_cases hm:c∈ns[set[k]].cls
  ·have h8:o.length+ns[set[k]].to.length<=100000:=by rw[if_pos hm] at h7;simp at h7;omega
   have e1:gat ns c (set.take (k+1))=o++ns[set[k]].to:=by rw[rF hk h5,<-h4,if_pos hm]
   cases o with
   | nil=>
    repeat' ((conv=>whnf);first|exact kQ|(refine bk ?_ ?_<;>intro _<;>try(exfalso;omega))|refine stq ?_|refine cd (jX sd) (λ_=>?_) (λ_=>?_)|refine Idx.atS (c:=ndC) (λ_=>rfl) set[k] rfl h5 ?_|refine dL.lst ?_|refine Chk.mk (bw _) ?_|refine Chk.growX 8 1 rfl rfl om om (by rw[aO];simp) ?_|refine Chk.mk (by rw[aO,List.length_map];omega) ?_|fail)
    all_goals(conv=>whnf)
    ·refine⟨k+1,[],⟨by omega,by rw[e1,show ns[set[k]].to=[] from List.eq_nil_of_length_eq_zero asm];rfl⟩,by omega,?_⟩;exact lq0
    ·obtain⟨y,ys,hy⟩:=kI (show 0<ns[set[k]].to.length by omega);refine⟨k+1,y::ys,⟨by omega,by rw[e1,hy];rfl⟩,by omega,?_⟩;exact lq [(0,_)] []
    ·contradiction
   | cons x xs=>
    have hx2:(x::xs).length=xs.length+1:=rfl;repeat' ((conv=>whnf);first|exact kQ|(refine bk ?_ ?_<;>intro _<;>try(exfalso;omega))|refine stq ?_|refine cd (jX sd) (λ_=>?_) (λ_=>?_)|refine Idx.atS (c:=ndC) (λ_=>rfl) set[k] rfl h5 ?_|refine dL.lst ?_|refine Chk.mk (bw _) ?_|refine Chk.growX 8 1 rfl rfl om om (by rw[aO];simp) ?_|refine Chk.mk (by rw[aO,List.length_map];omega) ?_|fail)
    all_goals(conv=>whnf)
    ·have hy:ns[set[k]].to=[]:=List.eq_nil_of_length_eq_zero om;have hy2:ns[set[k]].to.length=0:=by rw[hy];rfl
     refine⟨k+1,x::xs,⟨by omega,by rw[e1,hy];simp⟩,by omega,?_⟩;exact lq [(0,_)] []
    ·refine⟨k+1,(x::xs)++ns[set[k]].to,⟨by omega,by rw[e1]⟩,by omega,?_⟩;exact lq [(0,_)] []
    ·contradiction
  ·have e1:gat ns c (set.take (k+1))=o:=by rw[rF hk h5,<-h4,if_neg hm];simp
   cases o with
   | nil=>
    repeat' ((conv=>whnf);first|exact kQ|(refine bk ?_ ?_<;>intro _<;>try(exfalso;omega))|refine stq ?_|refine cd (jX sd) (λ_=>?_) (λ_=>?_)|refine Idx.atS (c:=ndC) (λ_=>rfl) set[k] rfl h5 ?_|refine dL.lst ?_|refine Chk.mk (bw _) ?_|refine Chk.growX 8 1 rfl rfl om om (by rw[aO];simp) ?_|refine Chk.mk (by rw[aO,List.length_map];omega) ?_|fail)
    all_goals(conv=>whnf)
    ·contradiction
    ·contradiction
    ·refine⟨k+1,[],⟨by omega,e1.symm⟩,by omega,?_⟩;exact lq0
   | cons x xs=>
    have hx2:(x::xs).length=xs.length+1:=rfl;repeat' ((conv=>whnf);first|exact kQ|(refine bk ?_ ?_<;>intro _<;>try(exfalso;omega))|refine stq ?_|refine cd (jX sd) (λ_=>?_) (λ_=>?_)|refine Idx.atS (c:=ndC) (λ_=>rfl) set[k] rfl h5 ?_|refine dL.lst ?_|refine Chk.mk (bw _) ?_|refine Chk.growX 8 1 rfl rfl om om (by rw[aO];simp) ?_|refine Chk.mk (by rw[aO,List.length_map];omega) ?_|fail)
    all_goals(conv=>whnf)
    all_goals first
     | contradiction
     | (refine⟨k+1,x::xs,⟨by omega,e1.symm⟩,by omega,?_⟩
        exact lq [(0,_)] [])
 ·have h9:gat ns c set=o:=by rw[h4,kE om]
  rw[h9] at h;cases o with
  | nil=>
   injection h with h;subst h
   repeat' ((conv=>whnf);first|exact kQ|(refine bk ?_ ?_<;>intro _<;>try(exfalso;omega))|refine stq ?_|refine cp (xE sd) ?_|fail)
   all_goals(conv=>whnf)
   exact aC.same (bn _) rfl
  | cons x xs=>
   have hx2:(x::xs).length=xs.length+1:=rfl;repeat' ((conv=>whnf);first|exact kQ|(refine bk ?_ ?_<;>intro _<;>try(exfalso;omega))|refine stq ?_|refine Cll.give (.cons (.same (e8 _ _)) (.cons (.frz rfl rfl (by rw[aO,List.length_map];omega) (.eqs (by rw[List.drop_zero,kE (by rw[aO];simp),aO]) (aT (λ_=>rfl) _))) .nil)) (tf hF hl om h) ?_|fail)
   all_goals(conv=>whnf)
   exact aC.same (bn _) rfl
end
section
open Go Go.Am Classical
set_option maxRecDepth 100000
variable [GT]
theorem rK:∀ {a b:List Bool},jh a=jh b->a=b
 | [],[],_=>rfl
 | [],_::_,h=>by simp[jh] at h
 | _::_,[],h=>by simp[jh] at h
 | x::a,y::b,h=>by
  simp only[jh,List.map_cons,List.cons.injEq] at h;rw[rK (a:=a) (b:=b) h.2];have:=h.1
  cases x<;>cases y<;>simp_all
abbrev kT (ss:List (List Bool)):List Str:=ss.map jh
abbrev nP (s:List Bool):List D:=[a8 s]
abbrev auB (ss:List (List Bool)):List (Nat×Box):=(0,.cells [.map 1] true)::(1,.map (pos (kT ss) 0))::(2,.cells [aS 3 1 ss] true)::bq 3 nP ss
theorem yZ {ss:List (List Bool)}{s:List Bool}(hl:s.length<=1000000) (hs:s∈ss) :
  AC1 Tryz.prog 162 [a8 s,.ptr 0 0,.ptr 2 0] ⟨4,auB ss⟩ (i64 ((kT ss).idxOf (jh s):Int)) ⟨20,auB ss⟩:=by
 have hk:jh s∈kT ss:=List.mem_map_of_mem hs;refine AC1.of_vl aB T0 Tryz.func162 rfl rfl ?_;cases ss with
 | nil=>simp at hs
 | cons t ts=>
  repeat' ((conv=>whnf);first|exact kQ|(refine bk ?_ ?_<;>intro _<;>try(exfalso;omega))|refine stq ?_|refine cp (n6 sd) ?_|(refine fF.pos (λ_ _=>?_) (λ_=>?_)<;>(try contradiction))|fail)
  all_goals(conv=>whnf)
  exact⟨Or.inr rfl,rfl,rfl⟩
abbrev auR (ss:List (List Bool)) (s:List Bool):List (Nat×Box):=(28,.cells ((ss++[s]).flatMap nP) false)::(27,.cells [a8 s] true)::(0,.cells [.map 1] true)::(1,.map (pos (kT (ss++[s])) 0))::(2,.cells [.sl 28 0 (ss++[s]).length (ss++[s]).length 1 false] true)::[]
theorem FK (ss:List (List Bool)) (s:List Bool):auR ss s=[(28,.cells (((ss.flatMap nP).drop 0).take (ss.length*1)++nP s) false),(27,.cells [a8 s] true),(0,.cells [.map 1] true),(1,.map (pos (kT ss) 0++[(D.str (jh s),i64 (ss.length:Int))])),(2,.cells [.sl 28 0 (ss.length+1) (ss.length+1) 1 false] true)]:=by
 unfold auR;rw[ad (c:=nP) (sz:=1) (λ_=>rfl),kT,List.map_append,l9];simp[pos]
theorem s8 {ss:List (List Bool)}{s:List Bool}(hl:s.length<=1000000) (hs:¬s∈ss) (hn:ss.length<=1000000) :
  AC1 Tryz.prog 162 [a8 s,.ptr 0 0,.ptr 2 0] ⟨4,auB ss⟩ (i64 (ss.length:Int)) ⟨32,auR ss s⟩:=by
 have hk:¬jh s∈kT ss:=λh=>by
  obtain⟨x,h1,h2⟩:=List.mem_map.1 h;exact hs (rK h2▸h1)
 refine AC1.of_vl aB T0 Tryz.func162 rfl rfl ?_;cases ss with
 | nil=>
  repeat' ((conv=>whnf);first|exact kQ|(refine bk ?_ ?_<;>intro _<;>try(exfalso;omega))|refine stq ?_|refine cp (n6 sd) ?_|(refine fF.pos (λ_ _=>?_) (λ_=>?_)<;>(try contradiction))|fail)
  all_goals(conv=>whnf)
  exact⟨Or.inr rfl,rfl,by rw[FK];rfl⟩
 | cons t ts=>
  have ht:(t::ts).length=ts.length+1:=rfl;repeat' ((conv=>whnf);first|exact kQ|(refine bk ?_ ?_<;>intro _<;>try(exfalso;omega))|refine stq ?_|refine cp (n6 sd) ?_|(refine fF.pos (λ_ _=>?_) (λ_=>?_)<;>(try contradiction))|fail)
  all_goals(conv=>whnf)
  exact⟨Or.inr rfl,rfl,by rw[FK];rfl⟩
end
end Go.Proofs.YtbmdndckndnehaaGreatDoor
