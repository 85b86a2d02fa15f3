/-
  Contracts of functions over data: steps of nets.
-/
import Derived.Test.YtbmdndckndnehaaGreatDoorC4
set_option linter.unusedSectionVars false
namespace Go.Proofs.YtbmdndckndnehaaGreatDoor
section
open Go Go.Am Classical
set_option maxRecDepth 100000
theorem xC5.rdX {p:Prop}(h:p:=by first|exact Rd.same (fK _ _)|exact Rd.sl' rfl om om|exact Rd.sl' rfl (by first|(rw[<-hy];done)|fail) (by first|(rw[<-hy];done)|fail)|exact Rd.sl' rfl sim sim|exact Rd.own (l:=(x::xs)++ns[set[k]].to) sim rfl sim sim|fail):p:=h
theorem xC5.rbX {p:Prop}(h:p:=by first|exact Rb.cells (Rds.eqs (gro (x::xs) ns[set[k]].to rfl (Nat.mul_one _)) (aF (by intro _;rfl) _)) rfl|exact Rb.cells (Rds.eqs (by first|(rw[hy,aO];done)|fail) (aF (by intro _;rfl) _)) rfl|exact Rb.cells (Rds.eqs (by first|(rw[hy];simp[splice];done)|fail) (aF (by intro _;rfl) _)) rfl|fail):p:=h
open xC5
variable [GT]
theorem ya {ns:List Nd}{b:Bool}(hl:ns.length<=100000):Pu Tryz.prog 161 [iQ ns b,aJ] (dF []):=by
 refine pv Tryz.func161 ?_;repeat' ((conv=>whnf);first|exact kQ|(refine bk ?_ ?_<;>intro _<;>try(exfalso;omega))|refine stq ?_|refine cp yz ?_|(apply Cll.inl aB T0 Tryz.func190 rfl rfl ?_;rotate_left)|exact⟨Or.inr rfl,rfl,rfl⟩|refine aH.times aB T0 1 ?_|fail)
 all_goals(conv=>whnf)
 exact⟨.nil⟩
def gat (ns:List Nd) (c:Int):List Nat->List Nat
 | []=>[]
 | i::l=>(match ns[i]? with|some n=>if c∈n.cls then n.to else []|none=>[])++gat ns c l
theorem mv {ns:List Nd}{c:Int}:∀ l m,gat ns c (l++m)=gat ns c l++gat ns c m
 | [],_=>rfl
 | i::l,m=>by simp[gat,mv l m]
def stp (ns:List Nd) (F:Nat) (set:List Nat) (c:Int):Option (List Nat):=
 if set=[0] then some [0] else
 match gat ns c set with
 | []=>some []
 | x::xs=>clo ns F [] (x::xs).reverse []
theorem C9 (l:List Nat):dF l=aD (l.map λk:Nat=>(k:Int)):=by simp[lst]
theorem Bs {l:List Nat}(hl:l.length<=1000000):Pu Tryz.prog 158 [dF l] (boo (decide (l=[0]))):=by
 rw[C9];have h:=Ih (l:=l.map λk:Nat=>(k:Int)) (by simpa using hl)
 rwa [show decide (l=[0])=decide ((l.map λk:Nat=>(k:Int))=[0]) from by
  congr 1;apply propext
  match l with
  | []=>simp
  | [x]=>simp
  | x::y::l=>simp]
theorem sM {ns:List Nd}{c:Int}{l:List Nat}{k:Nat}(h:k<l.length) (hk:l[k]<ns.length):gat ns c (l.take (k+1))=gat ns c (l.take k)++(if c∈ns[l[k]].cls then ns[l[k]].to else []):=by
 rw[bP h,mv];simp[gat,List.getElem?_eq_getElem hk]
theorem Bj {ns:List Nd}{c:Int}{l:List Nat}(k:Nat):(gat ns c (l.take k)).length<=(gat ns c l).length:=by
 conv=>rhs;rw[<-List.take_append_drop k l,mv]
 simp
theorem gro (a c:List Nat){z m:Nat}(hz:z=0) (hm:m=a.length):((a.flatMap λk=>[cN k]).drop z).take m++(c.map λk:Nat=>i64 (k:Int))=(a++c).flatMap λk=>[cN k]:=by
 subst hz;subst hm;rw[List.drop_zero,kE (by rw[aO];simp),List.flatMap_append,aO c]
theorem EQ {ns:List Nd}{b:Bool}{set r:List Nat}{c:Int}{F:Nat}(hF:F<=100000) (hl:ns.length<=100000) (hset:∀ i (h:i<set.length),set[i]<ns.length) (hn:set.length<=100000) (hcl:∀ i (h:i<ns.length),ns[i].cls.length<=1000000)
  (hg:(gat ns c set).length<=100000) (h:stp ns F set c=some r):Pu Tryz.prog 159 [iQ ns b,dF set,i64 c] (dF r):=by
 refine pv Tryz.func159 ?_;unfold stp at h;repeat' ((conv=>whnf);first|exact kQ|(refine bk ?_ ?_<;>intro _<;>try(exfalso;omega))|refine stq ?_|refine cd (Bs sd) (λ_=>?_) (λ_=>?_)|fail)
 all_goals(conv=>whnf)
 ·rename_i he;rw[if_pos he] at h;injection h with h;subst h
  subst he;exact aC.same (bt _) rfl
 rename_i he;rw[if_neg he] at h
 refine aH.by2 aB T0 (λ(k:Nat) (o:List Nat)=>⟨tmp 43 [(0,iQ ns b),(2,i64 c),(7,aU 0 1 o),(13,dF set),(14,i64 set.length),(15,i64 (k:Int))],⟨1,bz 0 (λk=>[cN k]) o⟩⟩)
  (λk o=>k<=set.length∧o=gat ns c (set.take k)) (λk _=>set.length-k) 0 [] ⟨by omega,rfl⟩ ?_ ?_
 ·exact lq0
 intro k o ⟨h3,h4⟩;have ho:=Bj (ns:=ns) (c:=c) (l:=set) k;rw[<-h4] at ho;by_cases hk:k<set.length
 ·have h5:=hset k hk;have h6:=hcl _ h5;have h7:=Bj (ns:=ns) (c:=c) (l:=set) (k+1);rw[sM hk h5,<-h4] at h7;by_cases hm:c∈ns[set[k]].cls
  ·have h8:o.length+ns[set[k]].to.length<=100000:=by rw[if_pos hm] at h7;simp at h7;omega
   have e1:gat ns c (set.take (k+1))=o++ns[set[k]].to:=by rw[sM hk h5,<-h4,if_pos hm]
   cases o with
   | nil=>
    repeat' ((conv=>whnf);first|exact kQ|(refine bk ?_ ?_<;>intro _<;>try(exfalso;omega))|refine stq ?_|refine cd (jm sd) (λ_=>?_) (λ_=>?_)|refine Idx.atS (c:=ndC) (λ_=>rfl) set[k] rfl h5 ?_|refine c9.lst ?_|refine Chk.mk (b8 _) ?_|refine Chk.growX 8 1 rfl rfl om om (by rw[aO];simp) ?_|refine Chk.mk (by rw[aO,List.length_map];omega) ?_|fail)
    all_goals(conv=>whnf)
    ·refine⟨k+1,[],⟨by omega,by rw[e1,show ns[set[k]].to=[] from List.eq_nil_of_length_eq_zero asm];rfl⟩,by omega,?_⟩;exact lq0
    ·obtain⟨y,ys,hy⟩:=kI (show 0<ns[set[k]].to.length by omega);refine⟨k+1,y::ys,⟨by omega,by rw[e1,hy];rfl⟩,by omega,?_⟩;exact lq [(0,_)] []
    ·contradiction
   | cons x xs=>
    have hx2:(x::xs).length=xs.length+1:=rfl;repeat' ((conv=>whnf);first|exact kQ|(refine bk ?_ ?_<;>intro _<;>try(exfalso;omega))|refine stq ?_|refine cd (jm sd) (λ_=>?_) (λ_=>?_)|refine Idx.atS (c:=ndC) (λ_=>rfl) set[k] rfl h5 ?_|refine c9.lst ?_|refine Chk.mk (b8 _) ?_|refine Chk.growX 8 1 rfl rfl om om (by rw[aO];simp) ?_|refine Chk.mk (by rw[aO,List.length_map];omega) ?_|fail)
    all_goals(conv=>whnf)
    ·have hy:ns[set[k]].to=[]:=List.eq_nil_of_length_eq_zero om;have hy2:ns[set[k]].to.length=0:=by rw[hy];rfl
     refine⟨k+1,x::xs,⟨by omega,by rw[e1,hy];simp⟩,by omega,?_⟩;exact lq [(0,_)] []
    ·refine⟨k+1,(x::xs)++ns[set[k]].to,⟨by omega,by rw[e1]⟩,by omega,?_⟩;exact lq [(0,_)] []
    ·contradiction
  ·have e1:gat ns c (set.take (k+1))=o:=by rw[sM hk h5,<-h4,if_neg hm];simp
   cases o with
   | nil=>
    repeat' ((conv=>whnf);first|exact kQ|(refine bk ?_ ?_<;>intro _<;>try(exfalso;omega))|refine stq ?_|refine cd (jm sd) (λ_=>?_) (λ_=>?_)|refine Idx.atS (c:=ndC) (λ_=>rfl) set[k] rfl h5 ?_|refine c9.lst ?_|refine Chk.mk (b8 _) ?_|refine Chk.growX 8 1 rfl rfl om om (by rw[aO];simp) ?_|refine Chk.mk (by rw[aO,List.length_map];omega) ?_|fail)
    all_goals(conv=>whnf)
    ·contradiction
    ·contradiction
    ·refine⟨k+1,[],⟨by omega,e1.symm⟩,by omega,?_⟩;exact lq0
   | cons x xs=>
    have hx2:(x::xs).length=xs.length+1:=rfl;repeat' ((conv=>whnf);first|exact kQ|(refine bk ?_ ?_<;>intro _<;>try(exfalso;omega))|refine stq ?_|refine cd (jm sd) (λ_=>?_) (λ_=>?_)|refine Idx.atS (c:=ndC) (λ_=>rfl) set[k] rfl h5 ?_|refine c9.lst ?_|refine Chk.mk (b8 _) ?_|refine Chk.growX 8 1 rfl rfl om om (by rw[aO];simp) ?_|refine Chk.mk (by rw[aO,List.length_map];omega) ?_|fail)
    all_goals(conv=>whnf)
    all_goals first
     | contradiction
     | (refine⟨k+1,x::xs,⟨by omega,e1.symm⟩,by omega,?_⟩
        exact lq [(0,_)] [])
 ·have h9:gat ns c set=o:=by rw[h4,kE om]
  rw[h9] at h;cases o with
  | nil=>
   injection h with h;subst h
   repeat' ((conv=>whnf);first|exact kQ|(refine bk ?_ ?_<;>intro _<;>try(exfalso;omega))|refine stq ?_|refine cp (ya sd) ?_|fail)
   all_goals(conv=>whnf)
   exact aC.same (bt _) rfl
  | cons x xs=>
   have hx2:(x::xs).length=xs.length+1:=rfl;repeat' ((conv=>whnf);first|exact kQ|(refine bk ?_ ?_<;>intro _<;>try(exfalso;omega))|refine stq ?_|refine Cll.give (.cons (.same (fK _ _)) (.cons (.frz rfl rfl (by rw[aO,List.length_map];omega) (.eqs (by rw[List.drop_zero,kE (by rw[aO];simp),aO]) (aS (λ_=>rfl) _))) .nil)) (uw hF hl om h) ?_|fail)
   all_goals(conv=>whnf)
   exact aC.same (bt _) rfl
end
section
open Go Go.Am Classical
set_option maxRecDepth 100000
variable [GT]
theorem sQ:∀ {a b:List Bool},jz a=jz b->a=b
 | [],[],_=>rfl
 | [],_::_,h=>by simp[jz] at h
 | _::_,[],h=>by simp[jz] at h
 | x::a,y::b,h=>by
  simp only[jz,List.map_cons,List.cons.injEq] at h;rw[sQ (a:=a) (b:=b) h.2];have:=h.1
  cases x<;>cases y<;>simp_all
abbrev ku (ss:List (List Bool)):List Str:=ss.map jz
abbrev oH (s:List Bool):List D:=[a9 s]
abbrev auB (ss:List (List Bool)):List (Nat×Box):=(0,.cells [.map 1] true)::(1,.map (pos (ku ss) 0))::(2,.cells [aU 3 1 ss] true)::bz 3 oH ss
theorem zx {ss:List (List Bool)}{s:List Bool}(hl:s.length<=1000000) (hs:s∈ss) :
  AC1 Tryz.prog 162 [a9 s,.ptr 0 0,.ptr 2 0] ⟨4,auB ss⟩ (i64 ((ku ss).idxOf (jz s):Int)) ⟨20,auB ss⟩:=by
 have hk:jz s∈ku ss:=List.mem_map_of_mem hs;refine AC1.of_vl aB T0 Tryz.func162 rfl rfl ?_;cases ss with
 | nil=>simp at hs
 | cons t ts=>
  repeat' ((conv=>whnf);first|exact kQ|(refine bk ?_ ?_<;>intro _<;>try(exfalso;omega))|refine stq ?_|refine cp (oz sd) ?_|(refine fV.pos (λ_ _=>?_) (λ_=>?_)<;>(try contradiction))|fail)
  all_goals(conv=>whnf)
  exact⟨Or.inr rfl,rfl,rfl⟩
abbrev auR (ss:List (List Bool)) (s:List Bool):List (Nat×Box):=(28,.cells ((ss++[s]).flatMap oH) false)::(27,.cells [a9 s] true)::(0,.cells [.map 1] true)::(1,.map (pos (ku (ss++[s])) 0))::(2,.cells [.sl 28 0 (ss++[s]).length (ss++[s]).length 1 false] true)::[]
theorem Gn (ss:List (List Bool)) (s:List Bool):auR ss s=[(28,.cells (((ss.flatMap oH).drop 0).take (ss.length*1)++oH s) false),(27,.cells [a9 s] true),(0,.cells [.map 1] true),(1,.map (pos (ku ss) 0++[(D.str (jz s),i64 (ss.length:Int))])),(2,.cells [.sl 28 0 (ss.length+1) (ss.length+1) 1 false] true)]:=by
 unfold auR;rw[af (c:=oH) (sz:=1) (λ_=>rfl),ku,List.map_append,mh];simp[pos]
theorem uJ {ss:List (List Bool)}{s:List Bool}(hl:s.length<=1000000) (hs:¬s∈ss) (hn:ss.length<=1000000) :
  AC1 Tryz.prog 162 [a9 s,.ptr 0 0,.ptr 2 0] ⟨4,auB ss⟩ (i64 (ss.length:Int)) ⟨32,auR ss s⟩:=by
 have hk:¬jz s∈ku ss:=λh=>by
  obtain⟨x,h1,h2⟩:=List.mem_map.1 h;exact hs (sQ h2▸h1)
 refine AC1.of_vl aB T0 Tryz.func162 rfl rfl ?_;cases ss with
 | nil=>
  repeat' ((conv=>whnf);first|exact kQ|(refine bk ?_ ?_<;>intro _<;>try(exfalso;omega))|refine stq ?_|refine cp (oz sd) ?_|(refine fV.pos (λ_ _=>?_) (λ_=>?_)<;>(try contradiction))|fail)
  all_goals(conv=>whnf)
  exact⟨Or.inr rfl,rfl,by rw[Gn];rfl⟩
 | cons t ts=>
  have ht:(t::ts).length=ts.length+1:=rfl;repeat' ((conv=>whnf);first|exact kQ|(refine bk ?_ ?_<;>intro _<;>try(exfalso;omega))|refine stq ?_|refine cp (oz sd) ?_|(refine fV.pos (λ_ _=>?_) (λ_=>?_)<;>(try contradiction))|fail)
  all_goals(conv=>whnf)
  exact⟨Or.inr rfl,rfl,by rw[Gn];rfl⟩
end
end Go.Proofs.YtbmdndckndnehaaGreatDoor
