/-
  Contracts of functions over data: steps of nets.
-/
import Derived.Test.YtjpgpihbhicinaaGreatDoorC4
set_option linter.unusedSectionVars false
namespace Go.Proofs.YtjpgpihbhicinaaGreatDoor
section
open Go Go.Am Classical
set_option maxRecDepth 100000
variable [GT]
theorem oc {ns:List Nd}{b:Bool}(hl:ns.length<=100000):Pu Tryz.prog 134 [iI ns b,aT] (dL []):=by
 refine Pu.of_v aA T0 Tryz.func134 rfl rfl (by simp[aJ,aB,ic]) ?_;repeat' ((conv=>whnf)<;>(first|refine sg ?_|exact kQ|(refine Br.mk ?_ ?_<;>intro _<;>try(exfalso;omega))|refine stq ?_|refine Cll.pu (rC) ?_|refine aO.pu (rC) ?_|(apply Cll.inl aA T0 Tryz.func164 rfl rfl ?_;rotate_left)|exact⟨Or.inr rfl,rfl,rfl⟩|refine aU.times aA T0 1 ?_|fail))
 all_goals(conv=>whnf)
 exact⟨.nil⟩
def gat (ns:List Nd) (c:Int):List Nat->List Nat
 | []=>[]
 | i::l=>(match ns[i]? with|some n=>if c∈n.cls then n.to else []|none=>[])++gat ns c l
theorem mL {ns:List Nd}{c:Int}:∀ l m,gat ns c (l++m)=gat ns c l++gat ns c m
 | [],_=>rfl
 | i::l,m=>by simp[gat,mL l m]
def stp (ns:List Nd) (F:Nat) (set:List Nat) (c:Int):Option (List Nat):=
 if set=[0] then some [0] else
 match gat ns c set with
 | []=>some []
 | x::xs=>clo ns F [] (x::xs).reverse []
theorem AB (l:List Nat):dL l=aQ (l.map fun k:Nat=>(k:Int)):=by simp[lst]
theorem t7 {l:List Nat}(hl:l.length<=1000000):Pu Tryz.prog 131 [dL l] (boo (decide (l=[0]))):=by
 rw[AB];have h:=Ev (l:=l.map fun k:Nat=>(k:Int)) (by simpa using hl)
 rwa [show decide (l=[0])=decide ((l.map fun k:Nat=>(k:Int))=[0]) from by
  congr 1;apply propext
  match l with
  | []=>simp
  | [x]=>simp
  | x::y::l=>simp]
theorem qX {ns:List Nd}{c:Int}{l:List Nat}{k:Nat}(h:k<l.length) (hk:l[k]<ns.length):gat ns c (l.take (k+1))=gat ns c (l.take k)++(if c∈ns[l[k]].cls then ns[l[k]].to else []):=by
 rw[ba h,mL];simp[gat,List.getElem?_eq_getElem hk]
theorem yy {ns:List Nd}{c:Int}{l:List Nat}(k:Nat):(gat ns c (l.take k)).length<=(gat ns c l).length:=by
 conv=>rhs;rw[<-List.take_append_drop k l,mL]
 simp
theorem gro (a c:List Nat){z m:Nat}(hz:z=0) (hm:m=a.length):((a.flatMap fun k=>[cZ k]).drop z).take m++(c.map fun k:Nat=>i64 (k:Int))=(a++c).flatMap fun k=>[cZ k]:=by
 subst hz;subst hm;rw[List.drop_zero,kE (by rw[ac];simp),List.flatMap_append,ac c]
theorem BE {ns:List Nd}{b:Bool}{set r:List Nat}{c:Int}{F:Nat}(hF:F<=100000) (hl:ns.length<=100000) (hset:∀ i (h:i<set.length),set[i]<ns.length) (hn:set.length<=100000) (hcl:∀ i (h:i<ns.length),ns[i].cls.length<=1000000)
  (hg:(gat ns c set).length<=100000) (h:stp ns F set c=some r):Pu Tryz.prog 132 [iI ns b,dL set,i64 c] (dL r):=by
 refine Pu.of_v aA T0 Tryz.func132 rfl rfl (by simp[aJ,aB,ic,bR]) ?_;unfold stp at h;repeat' ((conv=>whnf)<;>(first|refine sg ?_|exact kQ|(refine Br.mk ?_ ?_<;>intro _<;>try(exfalso;omega))|refine stq ?_|refine Cll.dec (t7 sd) (fun _=>?_) (fun _=>?_)|refine aO.dec (t7 sd) (fun _=>?_) (fun _=>?_)|fail))
 all_goals(conv=>whnf)
 ·rename_i he;rw[if_pos he] at h;injection h with h;subst h
  subst he;exact aI.same (bR _) rfl
 rename_i he;rw[if_neg he] at h
 refine aU.by2 aA T0 (fun(k:Nat) (o:List Nat)=>⟨tmp 43 [(0,iI ns b),(2,i64 c),(7,ai 0 1 o),(13,dL set),(14,i64 set.length),(15,i64 (k:Int))],⟨1,cW 0 (fun k=>[cZ k]) o⟩⟩)
  (fun k o=>k<=set.length∧o=gat ns c (set.take k)) (fun k _=>set.length-k) 0 [] ⟨by omega,rfl⟩ ?_ ?_
 ·exact Lf.of2 [] [] (by repeat(first|exact aM.nil|refine aM.cons rfl (by first|exact Rd.same (aH _ _)|exact rdA|fail) ?_)) (by repeat(first|exact Bxs.nil|refine Bxs.cons rfl rfl rfl (by first|exact rbB|exact Rb.cells (by(repeat(first|exact Rds.nil|refine Rds.cons (by first|exact Rd.same (aH _ _)|exact rdA|fail) ?_|fail));(first|done|fail)) rfl|exact rbC|fail) ?_)) rfl rfl
 intro k o ⟨h3,h4⟩;have ho:=yy (ns:=ns) (c:=c) (l:=set) k;rw[<-h4] at ho;by_cases hk:k<set.length
 ·have h5:=hset k hk;have h6:=hcl _ h5;have h7:=yy (ns:=ns) (c:=c) (l:=set) (k+1);rw[qX hk h5,<-h4] at h7;by_cases hm:c∈ns[set[k]].cls
  ·have h8:o.length+ns[set[k]].to.length<=100000:=by rw[if_pos hm] at h7;simp at h7;omega
   have e1:gat ns c (set.take (k+1))=o++ns[set[k]].to:=by rw[qX hk h5,<-h4,if_pos hm]
   cases o with
   | nil=>
    repeat' ((conv=>whnf)<;>(first|refine sg ?_|exact kQ|(refine Br.mk ?_ ?_<;>intro _<;>try(exfalso;omega))|refine stq ?_|refine Cll.dec (dp sd) (fun _=>?_) (fun _=>?_)|refine aO.dec (dp sd) (fun _=>?_) (fun _=>?_)|refine Idx.atS (c:=ndC) (fun _=>rfl) set[k] rfl h5 ?_|refine dP.lst ?_|refine Chk.mk (cM _) ?_|refine Chk.growX 8 1 rfl rfl (by omega) (by omega) (by rw[ac];simp) ?_|refine Chk.mk (by rw[ac,List.length_map];omega) ?_|fail))
    all_goals(conv=>whnf)
    ·refine⟨k+1,[],⟨by omega,by rw[e1,show ns[set[k]].to=[] from List.eq_nil_of_length_eq_zero (by assumption)];rfl⟩,by omega,?_⟩;exact Lf.of2 [] [] (by repeat(first|exact aM.nil|refine aM.cons rfl (by first|exact Rd.same (aH _ _)|exact rdA|fail) ?_)) (by repeat(first|exact Bxs.nil|refine Bxs.cons rfl rfl rfl (by first|exact rbB|exact Rb.cells (by(repeat(first|exact Rds.nil|refine Rds.cons (by first|exact Rd.same (aH _ _)|exact rdA|fail) ?_|fail));(first|done|fail)) rfl|exact rbC|fail) ?_)) rfl rfl
    ·obtain⟨y,ys,hy⟩:=kI (show 0<ns[set[k]].to.length by omega);refine⟨k+1,y::ys,⟨by omega,by rw[e1,hy];rfl⟩,by omega,?_⟩;exact Lf.of2 [(0,_)] [] (by repeat(first|exact aM.nil|refine aM.cons rfl (by first|exact Rd.sl' rfl (by rw[<-hy]) (by rw[<-hy])|exact Rd.same (aH _ _)|exact rdA|fail) ?_)) (by repeat(first|exact Bxs.nil|refine Bxs.cons rfl rfl rfl (by first|exact Rb.cells (Rds.eqs (by rw[hy,ac]) (aD (by intro _;rfl) _)) rfl|exact rbB|exact Rb.cells (by(repeat(first|exact Rds.nil|refine Rds.cons (by first|exact Rd.sl' rfl (by rw[<-hy]) (by rw[<-hy])|exact Rd.same (aH _ _)|exact rdA|fail) ?_|fail));(first|done|fail)) rfl|exact rbC|fail) ?_)) rfl rfl
    ·contradiction
   | cons x xs=>
    have hx2:(x::xs).length=xs.length+1:=rfl;repeat' ((conv=>whnf)<;>(first|refine sg ?_|exact kQ|(refine Br.mk ?_ ?_<;>intro _<;>try(exfalso;omega))|refine stq ?_|refine Cll.dec (dp sd) (fun _=>?_) (fun _=>?_)|refine aO.dec (dp sd) (fun _=>?_) (fun _=>?_)|refine Idx.atS (c:=ndC) (fun _=>rfl) set[k] rfl h5 ?_|refine dP.lst ?_|refine Chk.mk (cM _) ?_|refine Chk.growX 8 1 rfl rfl (by omega) (by omega) (by rw[ac];simp) ?_|refine Chk.mk (by rw[ac,List.length_map];omega) ?_|fail))
    all_goals(conv=>whnf)
    ·have hy:ns[set[k]].to=[]:=List.eq_nil_of_length_eq_zero (by omega);have hy2:ns[set[k]].to.length=0:=by rw[hy];rfl
     refine⟨k+1,x::xs,⟨by omega,by rw[e1,hy];simp⟩,by omega,?_⟩;exact Lf.of2 [(0,_)] [] (by repeat(first|exact aM.nil|refine aM.cons rfl (by first|exact Rd.sl' rfl (by omega) (by omega)|exact Rd.same (aH _ _)|exact rdA|fail) ?_)) (by repeat(first|exact Bxs.nil|refine Bxs.cons rfl rfl rfl (by first|exact Rb.cells (Rds.eqs (by rw[hy];simp[splice]) (aD (by intro _;rfl) _)) rfl|exact rbB|exact Rb.cells (by(repeat(first|exact Rds.nil|refine Rds.cons (by first|exact Rd.sl' rfl (by omega) (by omega)|exact Rd.same (aH _ _)|exact rdA|fail) ?_|fail));(first|done|fail)) rfl|exact rbC|fail) ?_)) rfl rfl
    ·refine⟨k+1,(x::xs)++ns[set[k]].to,⟨by omega,by rw[e1]⟩,by omega,?_⟩;exact Lf.of2 [(0,_)] [] (by repeat(first|exact aM.nil|refine aM.cons rfl (by first|exact Rd.sl' rfl (by simp;omega) (by simp;omega)|exact Rd.own (l:=(x::xs)++ns[set[k]].to) (by simp) rfl (by simp) (by simp)|exact Rd.same (aH _ _)|exact rdA|fail) ?_)) (by repeat(first|exact Bxs.nil|refine Bxs.cons rfl rfl rfl (by first|exact Rb.cells (Rds.eqs (gro (x::xs) ns[set[k]].to rfl (Nat.mul_one _)) (aD (by intro _;rfl) _)) rfl|exact rbB|exact Rb.cells (by(repeat(first|exact Rds.nil|refine Rds.cons (by first|exact Rd.sl' rfl (by simp;omega) (by simp;omega)|exact Rd.own (l:=(x::xs)++ns[set[k]].to) (by simp) rfl (by simp) (by simp)|exact Rd.same (aH _ _)|exact rdA|fail) ?_|fail));(first|done|fail)) rfl|exact rbC|fail) ?_)) rfl rfl
    ·contradiction
  ·have e1:gat ns c (set.take (k+1))=o:=by rw[qX hk h5,<-h4,if_neg hm];simp
   cases o with
   | nil=>
    repeat' ((conv=>whnf)<;>(first|refine sg ?_|exact kQ|(refine Br.mk ?_ ?_<;>intro _<;>try(exfalso;omega))|refine stq ?_|refine Cll.dec (dp sd) (fun _=>?_) (fun _=>?_)|refine aO.dec (dp sd) (fun _=>?_) (fun _=>?_)|refine Idx.atS (c:=ndC) (fun _=>rfl) set[k] rfl h5 ?_|refine dP.lst ?_|refine Chk.mk (cM _) ?_|refine Chk.growX 8 1 rfl rfl (by omega) (by omega) (by rw[ac];simp) ?_|refine Chk.mk (by rw[ac,List.length_map];omega) ?_|fail))
    all_goals(conv=>whnf)
    ·contradiction
    ·contradiction
    ·refine⟨k+1,[],⟨by omega,e1.symm⟩,by omega,?_⟩;exact Lf.of2 [] [] (by repeat(first|exact aM.nil|refine aM.cons rfl (by first|exact Rd.same (aH _ _)|exact rdA|fail) ?_)) (by repeat(first|exact Bxs.nil|refine Bxs.cons rfl rfl rfl (by first|exact rbB|exact Rb.cells (by(repeat(first|exact Rds.nil|refine Rds.cons (by first|exact Rd.same (aH _ _)|exact rdA|fail) ?_|fail));(first|done|fail)) rfl|exact rbC|fail) ?_)) rfl rfl
   | cons x xs=>
    have hx2:(x::xs).length=xs.length+1:=rfl;repeat' ((conv=>whnf)<;>(first|refine sg ?_|exact kQ|(refine Br.mk ?_ ?_<;>intro _<;>try(exfalso;omega))|refine stq ?_|refine Cll.dec (dp sd) (fun _=>?_) (fun _=>?_)|refine aO.dec (dp sd) (fun _=>?_) (fun _=>?_)|refine Idx.atS (c:=ndC) (fun _=>rfl) set[k] rfl h5 ?_|refine dP.lst ?_|refine Chk.mk (cM _) ?_|refine Chk.growX 8 1 rfl rfl (by omega) (by omega) (by rw[ac];simp) ?_|refine Chk.mk (by rw[ac,List.length_map];omega) ?_|fail))
    all_goals(conv=>whnf)
    all_goals first
     | contradiction
     | (refine⟨k+1,x::xs,⟨by omega,e1.symm⟩,by omega,?_⟩
        exact Lf.of2 [(0,_)] [] (by(repeat(first|exact aM.nil|refine aM.cons rfl (by first|exact Rd.same (aH _ _)|exact rdA|fail) ?_|fail));(first|done|fail)) (by(repeat(first|exact Bxs.nil|refine Bxs.cons rfl rfl rfl (by first|exact rbB|exact Rb.cells (by(repeat(first|exact Rds.nil|refine Rds.cons (by first|exact Rd.same (aH _ _)|exact rdA|fail) ?_|fail));(first|done|fail)) rfl|exact rbC|fail) ?_|fail));(first|done|fail)) rfl rfl)
 ·have h9:gat ns c set=o:=by rw[h4,kE (by omega)]
  rw[h9] at h;cases o with
  | nil=>
   injection h with h;subst h
   repeat' ((conv=>whnf)<;>(first|refine sg ?_|exact kQ|(refine Br.mk ?_ ?_<;>intro _<;>try(exfalso;omega))|refine stq ?_|refine Cll.pu (oc sd) ?_|refine aO.pu (oc sd) ?_|fail))
   all_goals(conv=>whnf)
   exact aI.same (bR _) rfl
  | cons x xs=>
   have hx2:(x::xs).length=xs.length+1:=rfl;repeat' ((conv=>whnf)<;>(first|refine sg ?_|exact kQ|(refine Br.mk ?_ ?_<;>intro _<;>try(exfalso;omega))|refine stq ?_|refine Cll.give (.cons (.same (aH _ _)) (.cons (.frz rfl rfl (by rw[ac,List.length_map];omega) (.eqs (by rw[List.drop_zero,kE (by rw[ac];simp),ac]) (aZ (fun _=>rfl) _))) .nil)) (sa hF hl (by omega) h) ?_|fail))
   all_goals(conv=>whnf)
   exact aI.same (bR _) rfl
end
section
open Go Go.Am Classical
set_option maxRecDepth 100000
variable [GT]
theorem qb:∀ {a b:List Bool},jl a=jl b->a=b
 | [],[],_=>rfl
 | [],_::_,h=>by simp[jl] at h
 | _::_,[],h=>by simp[jl] at h
 | x::a,y::b,h=>by
  simp only[jl,List.map_cons,List.cons.injEq] at h;rw[qb (a:=a) (b:=b) h.2];have:=h.1
  cases x<;>cases y<;>simp_all
abbrev kV (ss:List (List Bool)):List Str:=ss.map jl
abbrev nP (s:List Bool):List D:=[bS s]
abbrev auB (ss:List (List Bool)):List (Nat×Box):=(0,.cells [.map 1] true)::(1,.map (pos (kV ss) 0))::(2,.cells [ai 3 1 ss] true)::cW 3 nP ss
theorem xO {ss:List (List Bool)}{s:List Bool}(hl:s.length<=1000000) (hs:s∈ss) :
  AC1 Tryz.prog 135 [bS s,.ptr 0 0,.ptr 2 0] ⟨4,auB ss⟩ (i64 ((kV ss).idxOf (jl s):Int)) ⟨20,auB ss⟩:=by
 have hk:jl s∈kV ss:=List.mem_map_of_mem hs;refine AC1.of_vl aA T0 Tryz.func135 rfl rfl ?_;cases ss with
 | nil=>simp at hs
 | cons t ts=>
  repeat' ((conv=>whnf)<;>(first|refine sg ?_|exact kQ|(refine Br.mk ?_ ?_<;>intro _<;>try(exfalso;omega))|refine stq ?_|refine Cll.pu (fu sd) ?_|refine aO.pu (fu sd) ?_|(refine fb.pos (fun _ _=>?_) (fun _=>?_)<;>(try contradiction))|fail))
  all_goals(conv=>whnf)
  exact⟨Or.inr rfl,rfl,rfl⟩
abbrev auR (ss:List (List Bool)) (s:List Bool):List (Nat×Box):=(28,.cells ((ss++[s]).flatMap nP) false)::(27,.cells [bS s] true)::(0,.cells [.map 1] true)::(1,.map (pos (kV (ss++[s])) 0))::(2,.cells [.sl 28 0 (ss++[s]).length (ss++[s]).length 1 false] true)::[]
theorem DN (ss:List (List Bool)) (s:List Bool):auR ss s=[(28,.cells (((ss.flatMap nP).drop 0).take (ss.length*1)++nP s) false),(27,.cells [bS s] true),(0,.cells [.map 1] true),(1,.map (pos (kV ss) 0++[(D.str (jl s),i64 (ss.length:Int))])),(2,.cells [.sl 28 0 (ss.length+1) (ss.length+1) 1 false] true)]:=by
 unfold auR;rw[ak (c:=nP) (sz:=1) (fun _=>rfl),kV,List.map_append,mA];simp[pos]
theorem r6 {ss:List (List Bool)}{s:List Bool}(hl:s.length<=1000000) (hs:¬s∈ss) (hn:ss.length<=1000000) :
  AC1 Tryz.prog 135 [bS s,.ptr 0 0,.ptr 2 0] ⟨4,auB ss⟩ (i64 (ss.length:Int)) ⟨32,auR ss s⟩:=by
 have hk:¬jl s∈kV ss:=fun h=>by
  obtain⟨x,h1,h2⟩:=List.mem_map.1 h;exact hs (qb h2▸h1)
 refine AC1.of_vl aA T0 Tryz.func135 rfl rfl ?_;cases ss with
 | nil=>
  repeat' ((conv=>whnf)<;>(first|refine sg ?_|exact kQ|(refine Br.mk ?_ ?_<;>intro _<;>try(exfalso;omega))|refine stq ?_|refine Cll.pu (fu sd) ?_|refine aO.pu (fu sd) ?_|(refine fb.pos (fun _ _=>?_) (fun _=>?_)<;>(try contradiction))|fail))
  all_goals(conv=>whnf)
  exact⟨Or.inr rfl,rfl,by rw[DN];rfl⟩
 | cons t ts=>
  have ht:(t::ts).length=ts.length+1:=rfl;repeat' ((conv=>whnf)<;>(first|refine sg ?_|exact kQ|(refine Br.mk ?_ ?_<;>intro _<;>try(exfalso;omega))|refine stq ?_|refine Cll.pu (fu sd) ?_|refine aO.pu (fu sd) ?_|(refine fb.pos (fun _ _=>?_) (fun _=>?_)<;>(try contradiction))|fail))
  all_goals(conv=>whnf)
  exact⟨Or.inr rfl,rfl,by rw[DN];rfl⟩
end
end Go.Proofs.YtjpgpihbhicinaaGreatDoor
