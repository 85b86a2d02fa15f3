/-
  Contracts of functions over data: steps of nets.
-/
import Derived.Test.YtjpgpihbhicinaaGreatDoorC4
set_option linter.unusedSectionVars false
namespace Go.Proofs.YtjpgpihbhicinaaGreatDoor
section
open Go Go.Am Classical
set_option maxRecDepth 100000
variable [GT]
theorem oB {ns:List Nd}{b:Bool}(hl:ns.length≤100000):Pu Tryz.prog 134 [gq ns b,aU] (cu []):=by
 refine Pu.of_v aA T0 Tryz.func134 rfl rfl (by simp[aH,aC,iC]) ?_;repeat' ((conv=>whnf)<;>(first|refine aE.go aA T0 ?_|exact kQ|(refine Br.mk (fun _=>?_) (fun _=>?_)<;>(try(exfalso;omega)))|refine stq ?_|refine Cll.pu (qd) ?_|refine aW.pu (qd) ?_|(apply Cll.inl aA T0 Tryz.func164 rfl rfl ?_;rotate_left)|exact⟨Or.inr rfl,rfl,rfl⟩|refine aT.times aA T0 1 ?_|fail))
 all_goals(conv=>whnf)
 exact⟨.nil⟩
def gat (ns:List Nd) (c:Int):List Nat→List Nat
 | []=>[]
 | i::l=>(match ns[i]? with|some n=>if c∈n.cls then n.to else []|none=>[])++gat ns c l
theorem lR {ns:List Nd}{c:Int}:∀ l m,gat ns c (l++m)=gat ns c l++gat ns c m
 | [],_=>rfl
 | i::l,m=>by simp[gat,lR l m]
def stp (ns:List Nd) (F:Nat) (set:List Nat) (c:Int):Option (List Nat):=
 if set=[0] then some [0] else
 match gat ns c set with
 | []=>some []
 | x::xs=>clo ns F [] (x::xs).reverse []
theorem yv (l:List Nat):cu l=aQ (l.map fun k:Nat=>(k:Int)):=by simp[lst]
theorem tK {l:List Nat}(hl:l.length≤1000000):Pu Tryz.prog 131 [cu l] (boo (decide (l=[0]))):=by
 rw[yv];have h:=Dk (l:=l.map fun k:Nat=>(k:Int)) (by simpa using hl)
 rwa [show decide (l=[0])=decide ((l.map fun k:Nat=>(k:Int))=[0]) from by
  congr 1;apply propext
  match l with
  | []=>simp
  | [x]=>simp
  | x::y::l=>simp]
theorem qC {ns:List Nd}{c:Int}{l:List Nat}{k:Nat}(h:k<l.length) (hk:l[k]<ns.length):gat ns c (l.take (k+1))=gat ns c (l.take k)++(if c∈ns[l[k]].cls then ns[l[k]].to else []):=by
 rw[bt h,lR];simp[gat,List.getElem?_eq_getElem hk]
theorem xe {ns:List Nd}{c:Int}{l:List Nat}(k:Nat):(gat ns c (l.take k)).length≤(gat ns c l).length:=by
 conv=>rhs;rw[←List.take_append_drop k l,lR]
 simp
theorem gro (a c:List Nat){z m:Nat}(hz:z=0) (hm:m=a.length):((a.flatMap fun k=>[cJ k]).drop z).take m++(c.map fun k:Nat=>i64 (k:Int))=(a++c).flatMap fun k=>[cJ k]:=by
 subst hz;subst hm;rw[List.drop_zero,kE (by rw[af];simp),List.flatMap_append,af c]
theorem z6 {ns:List Nd}{b:Bool}{set r:List Nat}{c:Int}{F:Nat}(hF:F≤100000) (hl:ns.length≤100000) (hset:∀ i (h:i<set.length),set[i]<ns.length) (hn:set.length≤100000) (hcl:∀ i (h:i<ns.length),ns[i].cls.length≤1000000)
  (hg:(gat ns c set).length≤100000) (h:stp ns F set c=some r):Pu Tryz.prog 132 [gq ns b,cu set,i64 c] (cu r):=by
 refine Pu.of_v aA T0 Tryz.func132 rfl rfl (by simp[aH,aC,iC,bF]) ?_;unfold stp at h;repeat' ((conv=>whnf)<;>(first|refine aE.go aA T0 ?_|exact kQ|(refine Br.mk (fun _=>?_) (fun _=>?_)<;>(try(exfalso;omega)))|refine stq ?_|refine Cll.dec (tK sd) (fun _=>?_) (fun _=>?_)|refine aW.dec (tK sd) (fun _=>?_) (fun _=>?_)|fail))
 all_goals(conv=>whnf)
 ·rename_i he;rw[if_pos he] at h;injection h with h;subst h
  subst he;exact aN.same (bF _) rfl
 rename_i he;rw[if_neg he] at h
 refine aT.by2 aA T0 (fun(k:Nat) (o:List Nat)=>⟨tmp 43 [(0,gq ns b),(2,i64 c),(7,aj 0 1 o),(13,cu set),(14,i64 set.length),(15,i64 (k:Int))],⟨1,cx 0 (fun k=>[cJ k]) o⟩⟩)
  (fun k o=>k≤set.length∧o=gat ns c (set.take k)) (fun k _=>set.length-k) 0 [] ⟨by omega,rfl⟩ ?_ ?_
 ·exact Lf.of2 [] [] (by repeat(first|exact aI.nil|refine aI.cons rfl (by first|exact Rd.same (aF _ _)|exact rdA|fail) ?_)) (by repeat(first|exact Bxs.nil|refine Bxs.cons rfl rfl rfl (by first|exact rbB|exact Rb.cells (by(repeat(first|exact Rds.nil|refine Rds.cons (by first|exact Rd.same (aF _ _)|exact rdA|fail) ?_|fail));(first|done|fail)) rfl|exact rbC|fail) ?_)) rfl rfl
 intro k o ⟨h3,h4⟩;have ho:=xe (ns:=ns) (c:=c) (l:=set) k;rw[←h4] at ho;by_cases hk:k<set.length
 ·have h5:=hset k hk;have h6:=hcl _ h5;have h7:=xe (ns:=ns) (c:=c) (l:=set) (k+1);rw[qC hk h5,←h4] at h7;by_cases hm:c∈ns[set[k]].cls
  ·have h8:o.length+ns[set[k]].to.length≤100000:=by rw[if_pos hm] at h7;simp at h7;omega
   have e1:gat ns c (set.take (k+1))=o++ns[set[k]].to:=by rw[qC hk h5,←h4,if_pos hm]
   cases o with
   | nil=>
    repeat' ((conv=>whnf)<;>(first|refine aE.go aA T0 ?_|exact kQ|(refine Br.mk (fun _=>?_) (fun _=>?_)<;>(try(exfalso;omega)))|refine stq ?_|refine Cll.dec (dG sd) (fun _=>?_) (fun _=>?_)|refine aW.dec (dG sd) (fun _=>?_) (fun _=>?_)|refine Idx.atS (c:=ndC) (fun _=>rfl) set[k] rfl h5 ?_|refine ef.lst ?_|refine Chk.mk (cA _) ?_|refine Chk.growX 8 1 rfl rfl (by omega) (by omega) (by rw[af];simp) ?_|refine Chk.mk (by rw[af,List.length_map];omega) ?_|fail))
    all_goals(conv=>whnf)
    ·refine⟨k+1,[],⟨by omega,by rw[e1,show ns[set[k]].to=[] from List.eq_nil_of_length_eq_zero (by assumption)];rfl⟩,by omega,?_⟩;exact Lf.of2 [] [] (by repeat(first|exact aI.nil|refine aI.cons rfl (by first|exact Rd.same (aF _ _)|exact rdA|fail) ?_)) (by repeat(first|exact Bxs.nil|refine Bxs.cons rfl rfl rfl (by first|exact rbB|exact Rb.cells (by(repeat(first|exact Rds.nil|refine Rds.cons (by first|exact Rd.same (aF _ _)|exact rdA|fail) ?_|fail));(first|done|fail)) rfl|exact rbC|fail) ?_)) rfl rfl
    ·obtain⟨y,ys,hy⟩:=kI (show 0<ns[set[k]].to.length by omega);refine⟨k+1,y::ys,⟨by omega,by rw[e1,hy];rfl⟩,by omega,?_⟩;exact Lf.of2 [(0,_)] [] (by repeat(first|exact aI.nil|refine aI.cons rfl (by first|exact Rd.sl' rfl (by rw[←hy]) (by rw[←hy])|exact Rd.same (aF _ _)|exact rdA|fail) ?_)) (by repeat(first|exact Bxs.nil|refine Bxs.cons rfl rfl rfl (by first|exact Rb.cells (Rds.eqs (by rw[hy,af]) (aM (by intro _;rfl) _)) rfl|exact rbB|exact Rb.cells (by(repeat(first|exact Rds.nil|refine Rds.cons (by first|exact Rd.sl' rfl (by rw[←hy]) (by rw[←hy])|exact Rd.same (aF _ _)|exact rdA|fail) ?_|fail));(first|done|fail)) rfl|exact rbC|fail) ?_)) rfl rfl
    ·contradiction
   | cons x xs=>
    have hx2:(x::xs).length=xs.length+1:=rfl;repeat' ((conv=>whnf)<;>(first|refine aE.go aA T0 ?_|exact kQ|(refine Br.mk (fun _=>?_) (fun _=>?_)<;>(try(exfalso;omega)))|refine stq ?_|refine Cll.dec (dG sd) (fun _=>?_) (fun _=>?_)|refine aW.dec (dG sd) (fun _=>?_) (fun _=>?_)|refine Idx.atS (c:=ndC) (fun _=>rfl) set[k] rfl h5 ?_|refine ef.lst ?_|refine Chk.mk (cA _) ?_|refine Chk.growX 8 1 rfl rfl (by omega) (by omega) (by rw[af];simp) ?_|refine Chk.mk (by rw[af,List.length_map];omega) ?_|fail))
    all_goals(conv=>whnf)
    ·have hy:ns[set[k]].to=[]:=List.eq_nil_of_length_eq_zero (by omega);have hy2:ns[set[k]].to.length=0:=by rw[hy];rfl
     refine⟨k+1,x::xs,⟨by omega,by rw[e1,hy];simp⟩,by omega,?_⟩;exact Lf.of2 [(0,_)] [] (by repeat(first|exact aI.nil|refine aI.cons rfl (by first|exact Rd.sl' rfl (by omega) (by omega)|exact Rd.same (aF _ _)|exact rdA|fail) ?_)) (by repeat(first|exact Bxs.nil|refine Bxs.cons rfl rfl rfl (by first|exact Rb.cells (Rds.eqs (by rw[hy];simp[splice]) (aM (by intro _;rfl) _)) rfl|exact rbB|exact Rb.cells (by(repeat(first|exact Rds.nil|refine Rds.cons (by first|exact Rd.sl' rfl (by omega) (by omega)|exact Rd.same (aF _ _)|exact rdA|fail) ?_|fail));(first|done|fail)) rfl|exact rbC|fail) ?_)) rfl rfl
    ·refine⟨k+1,(x::xs)++ns[set[k]].to,⟨by omega,by rw[e1]⟩,by omega,?_⟩;exact Lf.of2 [(0,_)] [] (by repeat(first|exact aI.nil|refine aI.cons rfl (by first|exact Rd.sl' rfl (by simp;omega) (by simp;omega)|exact Rd.own (l:=(x::xs)++ns[set[k]].to) (by simp) rfl (by simp) (by simp)|exact Rd.same (aF _ _)|exact rdA|fail) ?_)) (by repeat(first|exact Bxs.nil|refine Bxs.cons rfl rfl rfl (by first|exact Rb.cells (Rds.eqs (gro (x::xs) ns[set[k]].to rfl (Nat.mul_one _)) (aM (by intro _;rfl) _)) rfl|exact rbB|exact Rb.cells (by(repeat(first|exact Rds.nil|refine Rds.cons (by first|exact Rd.sl' rfl (by simp;omega) (by simp;omega)|exact Rd.own (l:=(x::xs)++ns[set[k]].to) (by simp) rfl (by simp) (by simp)|exact Rd.same (aF _ _)|exact rdA|fail) ?_|fail));(first|done|fail)) rfl|exact rbC|fail) ?_)) rfl rfl
    ·contradiction
  ·have e1:gat ns c (set.take (k+1))=o:=by rw[qC hk h5,←h4,if_neg hm];simp
   cases o with
   | nil=>
    repeat' ((conv=>whnf)<;>(first|refine aE.go aA T0 ?_|exact kQ|(refine Br.mk (fun _=>?_) (fun _=>?_)<;>(try(exfalso;omega)))|refine stq ?_|refine Cll.dec (dG sd) (fun _=>?_) (fun _=>?_)|refine aW.dec (dG sd) (fun _=>?_) (fun _=>?_)|refine Idx.atS (c:=ndC) (fun _=>rfl) set[k] rfl h5 ?_|refine ef.lst ?_|refine Chk.mk (cA _) ?_|refine Chk.growX 8 1 rfl rfl (by omega) (by omega) (by rw[af];simp) ?_|refine Chk.mk (by rw[af,List.length_map];omega) ?_|fail))
    all_goals(conv=>whnf)
    ·contradiction
    ·contradiction
    ·refine⟨k+1,[],⟨by omega,e1.symm⟩,by omega,?_⟩;exact Lf.of2 [] [] (by repeat(first|exact aI.nil|refine aI.cons rfl (by first|exact Rd.same (aF _ _)|exact rdA|fail) ?_)) (by repeat(first|exact Bxs.nil|refine Bxs.cons rfl rfl rfl (by first|exact rbB|exact Rb.cells (by(repeat(first|exact Rds.nil|refine Rds.cons (by first|exact Rd.same (aF _ _)|exact rdA|fail) ?_|fail));(first|done|fail)) rfl|exact rbC|fail) ?_)) rfl rfl
   | cons x xs=>
    have hx2:(x::xs).length=xs.length+1:=rfl;repeat' ((conv=>whnf)<;>(first|refine aE.go aA T0 ?_|exact kQ|(refine Br.mk (fun _=>?_) (fun _=>?_)<;>(try(exfalso;omega)))|refine stq ?_|refine Cll.dec (dG sd) (fun _=>?_) (fun _=>?_)|refine aW.dec (dG sd) (fun _=>?_) (fun _=>?_)|refine Idx.atS (c:=ndC) (fun _=>rfl) set[k] rfl h5 ?_|refine ef.lst ?_|refine Chk.mk (cA _) ?_|refine Chk.growX 8 1 rfl rfl (by omega) (by omega) (by rw[af];simp) ?_|refine Chk.mk (by rw[af,List.length_map];omega) ?_|fail))
    all_goals(conv=>whnf)
    all_goals first
     | contradiction
     | (refine⟨k+1,x::xs,⟨by omega,e1.symm⟩,by omega,?_⟩
        exact Lf.of2 [(0,_)] [] (by(repeat(first|exact aI.nil|refine aI.cons rfl (by first|exact Rd.same (aF _ _)|exact rdA|fail) ?_|fail));(first|done|fail)) (by(repeat(first|exact Bxs.nil|refine Bxs.cons rfl rfl rfl (by first|exact rbB|exact Rb.cells (by(repeat(first|exact Rds.nil|refine Rds.cons (by first|exact Rd.same (aF _ _)|exact rdA|fail) ?_|fail));(first|done|fail)) rfl|exact rbC|fail) ?_|fail));(first|done|fail)) rfl rfl)
 ·have h9:gat ns c set=o:=by rw[h4,kE (by omega)]
  rw[h9] at h;cases o with
  | nil=>
   injection h with h;subst h
   repeat' ((conv=>whnf)<;>(first|refine aE.go aA T0 ?_|exact kQ|(refine Br.mk (fun _=>?_) (fun _=>?_)<;>(try(exfalso;omega)))|refine stq ?_|refine Cll.pu (oB sd) ?_|refine aW.pu (oB sd) ?_|fail))
   all_goals(conv=>whnf)
   exact aN.same (bF _) rfl
  | cons x xs=>
   have hx2:(x::xs).length=xs.length+1:=rfl;repeat' ((conv=>whnf)<;>(first|refine aE.go aA T0 ?_|exact kQ|(refine Br.mk (fun _=>?_) (fun _=>?_)<;>(try(exfalso;omega)))|refine stq ?_|refine Cll.give (.cons (.same (aF _ _)) (.cons (.frz rfl rfl (by rw[af,List.length_map];omega) (.eqs (by rw[List.drop_zero,kE (by rw[af];simp),af]) (aY (fun _=>rfl) _))) .nil)) (r7 hF hl (by omega) h) ?_|fail))
   all_goals(conv=>whnf)
   exact aN.same (bF _) rfl
end
section
open Go Go.Am Classical
set_option maxRecDepth 100000
variable [GT]
theorem qF:∀ {a b:List Bool},jE a=jE b→a=b
 | [],[],_=>rfl
 | [],_::_,h=>by simp[jE] at h
 | _::_,[],h=>by simp[jE] at h
 | x::a,y::b,h=>by
  simp only[jE,List.map_cons,List.cons.injEq] at h;rw[qF (a:=a) (b:=b) h.2];have:=h.1
  cases x<;>cases y<;>simp_all
abbrev jc (ss:List (List Bool)):List Str:=ss.map jE
abbrev mV (s:List Bool):List D:=[eL s]
abbrev auB (ss:List (List Bool)):List (Nat×Box):=(0,.cells [.map 1] true)::(1,.map (pos (jc ss) 0))::(2,.cells [aj 3 1 ss] true)::cx 3 mV ss
theorem v9 {ss:List (List Bool)}{s:List Bool}(hl:s.length≤1000000) (hs:s∈ss) :
  AC1 Tryz.prog 135 [eL s,.ptr 0 0,.ptr 2 0] ⟨4,auB ss⟩ (i64 ((jc ss).idxOf (jE s):Int)) ⟨20,auB ss⟩:=by
 have hk:jE s∈jc ss:=List.mem_map_of_mem hs;refine AC1.of_vl aA T0 Tryz.func135 rfl rfl ?_;cases ss with
 | nil=>simp at hs
 | cons t ts=>
  repeat' ((conv=>whnf)<;>(first|refine aE.go aA T0 ?_|exact kQ|(refine Br.mk (fun _=>?_) (fun _=>?_)<;>(try(exfalso;omega)))|refine stq ?_|refine Cll.pu (fZ sd) ?_|refine aW.pu (fZ sd) ?_|(refine fL.pos (fun _ _=>?_) (fun _=>?_)<;>(try contradiction))|fail))
  all_goals(conv=>whnf)
  exact⟨Or.inr rfl,rfl,rfl⟩
abbrev auR (ss:List (List Bool)) (s:List Bool):List (Nat×Box):=(28,.cells ((ss++[s]).flatMap mV) false)::(27,.cells [eL s] true)::(0,.cells [.map 1] true)::(1,.map (pos (jc (ss++[s])) 0))::(2,.cells [.sl 28 0 (ss++[s]).length (ss++[s]).length 1 false] true)::[]
theorem CA (ss:List (List Bool)) (s:List Bool):auR ss s=[(28,.cells (((ss.flatMap mV).drop 0).take (ss.length*1)++mV s) false),(27,.cells [eL s] true),(0,.cells [.map 1] true),(1,.map (pos (jc ss) 0++[(D.str (jE s),i64 (ss.length:Int))])),(2,.cells [.sl 28 0 (ss.length+1) (ss.length+1) 1 false] true)]:=by
 unfold auR;rw[bA (c:=mV) (sz:=1) (fun _=>rfl),jc,List.map_append,lJ];simp[pos]
theorem rQ {ss:List (List Bool)}{s:List Bool}(hl:s.length≤1000000) (hs:¬s∈ss) (hn:ss.length≤1000000) :
  AC1 Tryz.prog 135 [eL s,.ptr 0 0,.ptr 2 0] ⟨4,auB ss⟩ (i64 (ss.length:Int)) ⟨32,auR ss s⟩:=by
 have hk:¬jE s∈jc ss:=fun h=>by
  obtain⟨x,h1,h2⟩:=List.mem_map.1 h;exact hs (qF h2▸h1)
 refine AC1.of_vl aA T0 Tryz.func135 rfl rfl ?_;cases ss with
 | nil=>
  repeat' ((conv=>whnf)<;>(first|refine aE.go aA T0 ?_|exact kQ|(refine Br.mk (fun _=>?_) (fun _=>?_)<;>(try(exfalso;omega)))|refine stq ?_|refine Cll.pu (fZ sd) ?_|refine aW.pu (fZ sd) ?_|(refine fL.pos (fun _ _=>?_) (fun _=>?_)<;>(try contradiction))|fail))
  all_goals(conv=>whnf)
  exact⟨Or.inr rfl,rfl,by rw[CA];rfl⟩
 | cons t ts=>
  have ht:(t::ts).length=ts.length+1:=rfl;repeat' ((conv=>whnf)<;>(first|refine aE.go aA T0 ?_|exact kQ|(refine Br.mk (fun _=>?_) (fun _=>?_)<;>(try(exfalso;omega)))|refine stq ?_|refine Cll.pu (fZ sd) ?_|refine aW.pu (fZ sd) ?_|(refine fL.pos (fun _ _=>?_) (fun _=>?_)<;>(try contradiction))|fail))
  all_goals(conv=>whnf)
  exact⟨Or.inr rfl,rfl,by rw[CA];rfl⟩
end
end Go.Proofs.YtjpgpihbhicinaaGreatDoor
