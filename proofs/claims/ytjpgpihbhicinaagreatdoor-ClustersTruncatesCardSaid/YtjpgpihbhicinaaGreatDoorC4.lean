/-
  Contracts of functions over data: closures of nets.
-/
import Derived.Test.YtjpgpihbhicinaaGreatDoorC0
set_option linter.unusedSectionVars false
namespace Go.Proofs.YtjpgpihbhicinaaGreatDoor
open Go Go.Am Classical
set_option maxRecDepth 100000
variable [GT]
structure Nd where
 cls:List Int
 to:List Nat
abbrev ndC (n:Nd):List D:=[aQ n.cls,dL n.to]
abbrev nds (l:List Nd):D:=lstS ndC l
theorem ic (l:List Nd):aJ (nds l)=true:=fG (fun x=>by simp[aB,aF,bR]) l
abbrev iI (l:List Nd) (b:Bool):D:=.iptr [nds l,boo b]
theorem aH (l:List Nd) (b:Bool):aJ (iI l b)=true:=by simp[aJ,aB,ic]
def clo (ns:List Nd):Nat->List Nat->List Nat->List Nat->Option (List Nat)
 | 0,_,_,_=>none
 | f+1,seen,st,out=>
  match st with
  | []=>if out.length<=12 then some (srt out) else none
  | i::st=>
   match ns[i]? with
   | none=>none
   | some n=>
    if seen.contains i then clo ns f seen st out
    else if i=0 then some [0]
    else if n.cls≠[] then clo ns f (i::seen) st (out++[i])
    else if st.length+n.to.length<=100000 then clo ns f (i::seen) (n.to.reverse++st) out
    else none
theorem rC:Pu Tryz.prog 165 [aT] (.tup []):=by
 have hlen:Pu Tryz.prog 187 [.v (.int .u64 (IntKind.u64.wrap (0:Int)))] (i64 0):=zY (n:=0) (by omega);refine Pu.of_v aA T0 Tryz.func165 rfl rfl rfl ?_;repeat' ((conv=>whnf)<;>(first|refine sg ?_|exact kQ|(refine Br.mk ?_ ?_<;>intro _<;>try(exfalso;omega))|refine stq ?_|refine Cll.pu hlen ?_|(apply Cll.inl aA T0 Tryz.func186 rfl rfl ?_;rotate_left)|(apply Cll.inl aA T0 Tryz.func211 rfl rfl ?_;rotate_left)|exact⟨Or.inr rfl,rfl,rfl⟩|exact⟨Or.inl rfl,rfl,rfl⟩|refine aU.times aA T0 1 ?_|fail))
 all_goals(conv=>whnf)
 exact aI.same rfl rfl
theorem cM:∀ l:List Nat,eh (l.map fun k:Nat=>i64 (k:Int))=true
 | []=>rfl
 | _::s=>cM s
theorem spl (a b c:List Nat){m:Nat}(hm:m=a.length):splice ((a++b).map cZ) m (c.map cZ)=((a++c)++b.drop c.length).map cZ:=by
 subst hm;simp[splice,List.drop_append]
theorem grw (a b c:List Nat){z m:Nat}(hz:z=0) (hm:m=a.length):(((a++b).map cZ).drop z).take m++c.map cZ=((a++c)++[]).map cZ:=by
 subst hz;subst hm;simp
structure CSt where
 f:Nat
 seen:List Nat
 st:List Nat
 junk:List Nat
 out:List Nat
set_option maxHeartbeats 2000000 in
theorem sa {ns:List Nd}{b:Bool}{x:Nat}{xs r:List Nat}{F:Nat}(hF:F<=100000) (hl:ns.length<=100000) (hx:xs.length<100000) (h:clo ns F [] (x::xs).reverse []=some r) :
  Pu Tryz.prog 134 [iI ns b,dL (x::xs)] (dL r):=by
 have hx2:(x::xs).length=xs.length+1:=rfl;refine Pu.of_v aA T0 Tryz.func134 rfl rfl (by simp[aJ,aB,ic,bR]) ?_;repeat' ((conv=>whnf)<;>(first|refine sg ?_|exact kQ|(refine Br.mk ?_ ?_<;>intro _<;>try(exfalso;omega))|refine stq ?_|(apply Cll.inl aA T0 Tryz.func164 rfl rfl ?_;rotate_left)|exact⟨Or.inr rfl,rfl,rfl⟩|refine dP.lst ?_|refine Chk.mk (cM _) ?_|refine Chk.growX 8 1 rfl rfl (by omega) (by omega) (by simp) ?_|fail))
 all_goals(conv=>whnf)
 refine aU.by aA T0 (fun c:CSt=>⟨tmp 70 [(0,iI ns b),(5,.sl 0 0 ns.length ns.length 1 true),(6,ai 1 1 c.out),(7,.sl 2 0 c.st.length (c.st.length+c.junk.length) 1 false)],⟨3,(0,.cells (ao ns.length fun i=>boo (c.seen.contains i)) true)::(2,.cells ((c.st.reverse++c.junk).map cZ) false)::cW 1 (fun k=>[cZ k]) c.out⟩⟩)
  (fun c=>clo ns c.f c.seen c.st c.out=some r∧c.out.length+c.f<=100000∧c.st.length<=100000) (fun c=>c.f) ⟨F,[],(x::xs).reverse,[],[]⟩ ⟨h,by simp;omega,by simp;omega⟩ ?_ ?_
 ·exact Lf.of2 [(0,_),(2,_)] [] (by repeat(first|exact aM.nil|refine aM.cons rfl (by first|exact Rd.sl' rfl (by simp) (by simp)|exact Rd.same (aH _ _)|exact rdA|fail) ?_)) (by repeat(first|exact Bxs.nil|refine Bxs.cons rfl rfl rfl (by first|exact Rb.cells (Rds.eqs (bE (by omega) (fun i _=>rfl)) (aW (fun _=>rfl))) rfl|exact Rb.cells (Rds.eqs (by simp) (aZ (fun _=>rfl) _)) rfl|exact rbB|exact rbC|fail) ?_)) rfl rfl
 intro⟨f,seen,st,junk,out⟩ ⟨h1,h2,h3⟩;dsimp only at h1 h2 h3 ⊢;cases f with
 | zero=>simp[clo] at h1
 | succ f=>
 cases st with
 | nil=>
  have hz:([]:List Nat).length=0:=rfl;simp only[clo] at h1;by_cases ho:out.length<=12
  ·rw[if_pos ho] at h1;injection h1 with h1;subst h1
   cases out with
   | nil=>
    repeat' ((conv=>whnf)<;>(first|refine sg ?_|exact kQ|(refine Br.mk ?_ ?_<;>intro _<;>try(exfalso;omega))|refine stq ?_|refine Cll.pu (rC) ?_|fail))
    all_goals(conv=>whnf)
    exact⟨.nil⟩
   | cons o os=>
    repeat' ((conv=>whnf)<;>(first|refine sg ?_|exact kQ|(refine Br.mk ?_ ?_<;>intro _<;>try(exfalso;omega))|refine stq ?_|refine Cll.emb (Sort_c (l:=o::os) ho (by simp)) [(0,1)] [] (.tup []) [(1,.cells ((srt (o::os)).map cZ) false)] [(0,.cells (ao ns.length fun i=>boo (seen.contains i)) true),(2,.cells (([].reverse++junk).map cZ) false)] rfl bK (by(repeat(first|exact Bxs.nil|refine Bxs.cons rfl rfl rfl (by first|exact Rb.cells (Rds.eqs (ac _) (aZ (fun _=>rfl) _)) rfl|exact rbB|exact Rb.cells bK rfl|exact rbC|fail) ?_|fail));(first|done|fail)) rdA (by(repeat(first|exact Bxs.nil|refine Bxs.cons rfl rfl rfl (by first|exact Rb.cells (Rds.eqs (ac _) (aZ (fun _=>rfl) _)) rfl|exact rbB|exact Rb.cells bK rfl|exact rbC|fail) ?_|fail));(first|done|fail)) (by(repeat(first|exact aj.nil|refine aj.cons rfl rfl rfl ?_|fail));(first|done|fail)) ?_|fail))
    all_goals(conv=>whnf)
    exact aI.frz1 (l:=srt (o::os)) (f:=cZ) rfl rfl (by simp[srt]) (fun _=>rfl) rfl
  ·rw[if_neg ho] at h1;cases h1
 | cons i st=>
  simp only[clo] at h1;cases hi:ns[i]? with
  | none=>simp[hi] at h1
  | some n=>
  simp only[hi] at h1;obtain⟨hlt,hget⟩:=List.getElem?_eq_some_iff.1 hi;subst hget;have hst:(i::st).length=st.length+1:=rfl;have hrev:((i::st).reverse++junk).map cZ=(st.reverse++i::junk).map cZ:=by simp
  have hgt:(((i::st).reverse++junk).map cZ)[st.length]?=some (cZ i):=by rw[hrev];simp
  have hs2:(ao ns.length fun k=>boo (seen.contains k)).set i (boo true)=ao ns.length fun k=>boo ((i::seen).contains k):=bq (by simp) (fun k _ hk=>by simp[hk])
  cases hs:seen.contains i with
  | true=>
   rw[hs,if_pos rfl] at h1;cases out with
   | nil=>
    repeat' ((conv=>whnf)<;>(first|refine sg ?_|exact kQ|(refine Br.mk ?_ ?_<;>intro _<;>try(exfalso;omega))|refine stq ?_|refine ca.at st.length (by omega) (by omega) ?_|refine ca.at i (by omega) (by omega) ?_|refine Get.one hgt ?_|refine Get.F (k:=i) (d:=boo true) hlt (by rw[hs]) ?_|refine Put.one (by simp;omega) ?_|refine Idx.atS (c:=ndC) (fun _=>rfl) i rfl hlt ?_|refine dP.lst ?_|refine Chk.mk (cM _) ?_|refine Chk.growX 8 1 rfl rfl (by omega) (by omega) (by simp;omega) ?_|fail))
    all_goals(conv=>whnf)
    refine⟨⟨f,seen,st,i::junk,[]⟩,⟨h1,by dsimp only;omega,by dsimp only;omega⟩,by dsimp only;omega,?_⟩;exact Lf.of2 [(0,_),(2,_)] [] (by repeat(first|exact aM.nil|refine aM.cons rfl (by first|exact Rd.sl' rfl (by first|omega|(simp;done)|(simp;omega)) (by first|omega|(simp;done)|(simp;omega))|exact Rd.same (aH _ _)|exact rdA|fail) ?_)) (by repeat(first|exact Bxs.nil|refine Bxs.cons rfl rfl rfl (by first|exact Rb.cells (Rds.eqs hrev (aZ (fun _=>rfl) _)) rfl|exact Rb.cells (Rds.same (aW (fun _=>rfl))) rfl|exact rbB|exact rbC|fail) ?_)) rfl rfl
   | cons o os=>
    repeat' ((conv=>whnf)<;>(first|refine sg ?_|exact kQ|(refine Br.mk ?_ ?_<;>intro _<;>try(exfalso;omega))|refine stq ?_|refine ca.at st.length (by omega) (by omega) ?_|refine ca.at i (by omega) (by omega) ?_|refine Get.one hgt ?_|refine Get.F (k:=i) (d:=boo true) hlt (by rw[hs]) ?_|refine Put.one (by simp;omega) ?_|refine Idx.atS (c:=ndC) (fun _=>rfl) i rfl hlt ?_|refine dP.lst ?_|refine Chk.mk (cM _) ?_|refine Chk.growX 8 1 rfl rfl (by omega) (by omega) (by simp;omega) ?_|fail))
    all_goals(conv=>whnf)
    refine⟨⟨f,seen,st,i::junk,o::os⟩,⟨h1,by dsimp only;omega,by dsimp only;omega⟩,by dsimp only;omega,?_⟩;exact Lf.of2 [(0,_),(1,_),(2,_)] [] (by repeat(first|exact aM.nil|refine aM.cons rfl (by first|exact Rd.sl' rfl (by first|omega|(simp;done)|(simp;omega)) (by first|omega|(simp;done)|(simp;omega))|exact Rd.same (aH _ _)|exact rdA|fail) ?_)) (by repeat(first|exact Bxs.nil|refine Bxs.cons rfl rfl rfl (by first|exact Rb.cells (Rds.eqs hrev (aZ (fun _=>rfl) _)) rfl|exact Rb.cells (Rds.same (aW (fun _=>rfl))) rfl|exact rbB|exact rbC|fail) ?_)) rfl rfl
  | false=>
   rw[hs,if_neg (by simp)] at h1
   have spl':∀ {m:Nat},m=st.length->splice (((i::st).reverse++junk).map cZ) m (ns[i].to.map cZ)=((ns[i].to.reverse++st).reverse++(i::junk).drop ns[i].to.length).map cZ:=fun hm=>by
    rw[hrev,spl _ _ _ (by simp;exact hm)];simp
   have grw':∀ {z m:Nat},z=0->m=st.length->((((i::st).reverse++junk).map cZ).drop z).take m++ns[i].to.map cZ=((ns[i].to.reverse++st).reverse++[]).map cZ:=fun hz hm=>by
    rw[hrev,grw _ _ _ hz (by simp;exact hm)];simp
   by_cases h0:i=0
   ·rw[if_pos h0] at h1;injection h1 with h1;subst h1
    cases out with
    | nil=>
     repeat' ((conv=>whnf)<;>(first|refine sg ?_|exact kQ|(refine Br.mk ?_ ?_<;>intro _<;>try(exfalso;omega))|refine stq ?_|refine ca.at st.length (by omega) (by omega) ?_|refine ca.at i (by omega) (by omega) ?_|refine Get.one hgt ?_|refine Get.F (k:=i) (d:=boo false) hlt (by rw[hs]) ?_|refine Put.one (by simp;omega) ?_|refine Idx.atS (c:=ndC) (fun _=>rfl) i rfl hlt ?_|refine dP.lst ?_|refine Chk.mk (cM _) ?_|refine Chk.mk (by rw[List.length_map,kG,List.length_reverse];simp only[Int.toNat_zero];omega) ?_|refine Chk.mk ⟨(show _*8<=1099511627776 from by omega),(show _<=1099511627776 from by omega),(by rw[List.length_map,kG,List.length_reverse];simp only[Int.toNat_zero];omega)⟩ ?_|fail))
     all_goals(conv=>whnf)
     exact aI.frz1 (l:=[0]) (f:=cZ) rfl rfl rfl (fun _=>rfl) rfl
    | cons o os=>
     repeat' ((conv=>whnf)<;>(first|refine sg ?_|exact kQ|(refine Br.mk ?_ ?_<;>intro _<;>try(exfalso;omega))|refine stq ?_|refine ca.at st.length (by omega) (by omega) ?_|refine ca.at i (by omega) (by omega) ?_|refine Get.one hgt ?_|refine Get.F (k:=i) (d:=boo false) hlt (by rw[hs]) ?_|refine Put.one (by simp;omega) ?_|refine Idx.atS (c:=ndC) (fun _=>rfl) i rfl hlt ?_|refine dP.lst ?_|refine Chk.mk (cM _) ?_|refine Chk.mk (by rw[List.length_map,kG,List.length_reverse];simp only[Int.toNat_zero];omega) ?_|refine Chk.mk ⟨(show _*8<=1099511627776 from by omega),(show _<=1099511627776 from by omega),(by rw[List.length_map,kG,List.length_reverse];simp only[Int.toNat_zero];omega)⟩ ?_|fail))
     all_goals(conv=>whnf)
     exact aI.frz1 (l:=[0]) (f:=cZ) rfl rfl rfl (fun _=>rfl) rfl
   ·rw[if_neg h0] at h1;by_cases hc:ns[i].cls=[]
    ·rw[if_neg (by simp[hc])] at h1;have hc2:ns[i].cls.length=0:=by rw[hc];rfl
     by_cases hg:st.length+ns[i].to.length<=100000
     ·rw[if_pos hg] at h1;cases out with
      | nil=>
       repeat' ((conv=>whnf)<;>(first|refine sg ?_|exact kQ|(refine Br.mk ?_ ?_<;>intro _<;>try(exfalso;omega))|refine stq ?_|refine ca.at st.length (by omega) (by omega) ?_|refine ca.at i (by omega) (by omega) ?_|refine Get.one hgt ?_|refine Get.F (k:=i) (d:=boo false) hlt (by rw[hs]) ?_|refine Put.one (by simp;omega) ?_|refine Idx.atS (c:=ndC) (fun _=>rfl) i rfl hlt ?_|refine dP.lst ?_|refine Chk.mk (cM _) ?_|refine Chk.mk (by rw[List.length_map,kG,List.length_reverse];simp only[Int.toNat_zero];omega) ?_|refine Chk.mk ⟨(show _*8<=1099511627776 from by omega),(show _<=1099511627776 from by omega),(by rw[List.length_map,kG,List.length_reverse];simp only[Int.toNat_zero];omega)⟩ ?_|fail))
       all_goals(conv=>whnf)
       ·refine⟨⟨f,i::seen,ns[i].to.reverse++st,(i::junk).drop ns[i].to.length,[]⟩,⟨h1,by dsimp only;omega,by simp;omega⟩,by dsimp only;omega,?_⟩;exact Lf.of2 [(0,_),(2,_)] [] (by repeat(first|exact aM.nil|refine aM.cons rfl (by first|exact Rd.sl' rfl (by first|omega|(simp;done)|(simp;omega)) (by first|omega|(simp;done)|(simp;omega))|exact Rd.same (aH _ _)|exact rdA|fail) ?_)) (by repeat(first|exact Bxs.nil|refine Bxs.cons rfl rfl rfl (by first|exact Rb.cells (Rds.eqs (spl' (by first|omega|(simp;done)|(simp;omega))) (aZ (fun _=>rfl) _)) rfl|exact Rb.cells (Rds.eqs hrev (aZ (fun _=>rfl) _)) rfl|exact Rb.cells (Rds.eqs hs2 (aW (fun _=>rfl))) rfl|exact rbB|exact rbC|fail) ?_)) rfl rfl
       ·refine⟨⟨f,i::seen,ns[i].to.reverse++st,[],[]⟩,⟨h1,by dsimp only;omega,by simp;omega⟩,by dsimp only;omega,?_⟩;exact Lf.of2 [(0,_),(2,_)] [] (by repeat(first|exact aM.nil|refine aM.cons rfl (by first|exact Rd.sl' rfl (by first|omega|(simp;done)|(simp;omega)) (by first|omega|(simp;done)|(simp;omega))|exact Rd.same (aH _ _)|exact rdA|fail) ?_)) (by repeat(first|exact Bxs.nil|refine Bxs.cons rfl rfl rfl (by first|exact Rb.cells (Rds.eqs (grw' rfl (by first|omega|(simp;done)|(simp;omega))) (aZ (fun _=>rfl) _)) rfl|exact Rb.cells (Rds.eqs hrev (aZ (fun _=>rfl) _)) rfl|exact Rb.cells (Rds.eqs hs2 (aW (fun _=>rfl))) rfl|exact rbB|exact rbC|fail) ?_)) rfl rfl
      | cons o os=>
       repeat' ((conv=>whnf)<;>(first|refine sg ?_|exact kQ|(refine Br.mk ?_ ?_<;>intro _<;>try(exfalso;omega))|refine stq ?_|refine ca.at st.length (by omega) (by omega) ?_|refine ca.at i (by omega) (by omega) ?_|refine Get.one hgt ?_|refine Get.F (k:=i) (d:=boo false) hlt (by rw[hs]) ?_|refine Put.one (by simp;omega) ?_|refine Idx.atS (c:=ndC) (fun _=>rfl) i rfl hlt ?_|refine dP.lst ?_|refine Chk.mk (cM _) ?_|refine Chk.mk (by rw[List.length_map,kG,List.length_reverse];simp only[Int.toNat_zero];omega) ?_|refine Chk.mk ⟨(show _*8<=1099511627776 from by omega),(show _<=1099511627776 from by omega),(by rw[List.length_map,kG,List.length_reverse];simp only[Int.toNat_zero];omega)⟩ ?_|fail))
       all_goals(conv=>whnf)
       ·refine⟨⟨f,i::seen,ns[i].to.reverse++st,(i::junk).drop ns[i].to.length,o::os⟩,⟨h1,by dsimp only;omega,by simp;omega⟩,by dsimp only;omega,?_⟩;exact Lf.of2 [(0,_),(1,_),(2,_)] [] (by repeat(first|exact aM.nil|refine aM.cons rfl (by first|exact Rd.sl' rfl (by first|omega|(simp;done)|(simp;omega)) (by first|omega|(simp;done)|(simp;omega))|exact Rd.same (aH _ _)|exact rdA|fail) ?_)) (by repeat(first|exact Bxs.nil|refine Bxs.cons rfl rfl rfl (by first|exact Rb.cells (Rds.eqs (spl' (by first|omega|(simp;done)|(simp;omega))) (aZ (fun _=>rfl) _)) rfl|exact Rb.cells (Rds.eqs hrev (aZ (fun _=>rfl) _)) rfl|exact Rb.cells (Rds.eqs hs2 (aW (fun _=>rfl))) rfl|exact rbB|exact rbC|fail) ?_)) rfl rfl
       ·refine⟨⟨f,i::seen,ns[i].to.reverse++st,[],o::os⟩,⟨h1,by dsimp only;omega,by simp;omega⟩,by dsimp only;omega,?_⟩;exact Lf.of2 [(0,_),(1,_),(2,_)] [] (by repeat(first|exact aM.nil|refine aM.cons rfl (by first|exact Rd.sl' rfl (by first|omega|(simp;done)|(simp;omega)) (by first|omega|(simp;done)|(simp;omega))|exact Rd.same (aH _ _)|exact rdA|fail) ?_)) (by repeat(first|exact Bxs.nil|refine Bxs.cons rfl rfl rfl (by first|exact Rb.cells (Rds.eqs (grw' rfl (by first|omega|(simp;done)|(simp;omega))) (aZ (fun _=>rfl) _)) rfl|exact Rb.cells (Rds.eqs hrev (aZ (fun _=>rfl) _)) rfl|exact Rb.cells (Rds.eqs hs2 (aW (fun _=>rfl))) rfl|exact rbB|exact rbC|fail) ?_)) rfl rfl
     ·rw[if_neg hg] at h1;cases h1
    ·rw[if_pos hc] at h1;have hc2:0<ns[i].cls.length:=List.length_pos_iff.2 hc;cases out with
     | nil=>
      repeat' ((conv=>whnf)<;>(first|refine sg ?_|exact kQ|(refine Br.mk ?_ ?_<;>intro _<;>try(exfalso;omega))|refine stq ?_|refine ca.at st.length (by omega) (by omega) ?_|refine ca.at i (by omega) (by omega) ?_|refine Get.one hgt ?_|refine Get.F (k:=i) (d:=boo false) hlt (by rw[hs]) ?_|refine Put.one (by simp;omega) ?_|refine Idx.atS (c:=ndC) (fun _=>rfl) i rfl hlt ?_|refine dP.lst ?_|refine Chk.mk (cM _) ?_|refine Chk.mk (by rw[List.length_map,kG,List.length_reverse];simp only[Int.toNat_zero];omega) ?_|refine Chk.mk ⟨(show _*8<=1099511627776 from by omega),(show _<=1099511627776 from by omega),(by rw[List.length_map,kG,List.length_reverse];simp only[Int.toNat_zero];omega)⟩ ?_|fail))
      all_goals(conv=>whnf)
      refine⟨⟨f,i::seen,st,i::junk,[i]⟩,⟨h1,by dsimp only at h2 ⊢;simp at h2 ⊢;omega,by dsimp only;omega⟩,by dsimp only;omega,?_⟩;exact Lf.of2 [(0,_),(1,_),(2,_)] [] (by repeat(first|exact aM.nil|refine aM.cons rfl (by first|exact Rd.sl' rfl (by first|omega|(simp;done)|(simp;omega)) (by first|omega|(simp;done)|(simp;omega))|exact Rd.same (aH _ _)|exact rdA|fail) ?_)) (by repeat(first|exact Bxs.nil|refine Bxs.cons rfl rfl rfl (by first|exact Rb.cells (Rds.eqs hrev (aZ (fun _=>rfl) _)) rfl|exact Rb.cells (Rds.eqs hs2 (aW (fun _=>rfl))) rfl|exact rbB|exact rbC|fail) ?_)) rfl rfl
     | cons o os=>
      have ho:(o::os).length=os.length+1:=rfl;repeat' ((conv=>whnf)<;>(first|refine sg ?_|exact kQ|(refine Br.mk ?_ ?_<;>intro _<;>try(exfalso;omega))|refine stq ?_|refine ca.at st.length (by omega) (by omega) ?_|refine ca.at i (by omega) (by omega) ?_|refine Get.one hgt ?_|refine Get.F (k:=i) (d:=boo false) hlt (by rw[hs]) ?_|refine Put.one (by simp;omega) ?_|refine Idx.atS (c:=ndC) (fun _=>rfl) i rfl hlt ?_|refine dP.lst ?_|refine Chk.mk (cM _) ?_|refine Chk.mk (by rw[List.length_map,kG,List.length_reverse];simp only[Int.toNat_zero];omega) ?_|refine Chk.mk ⟨(show _*8<=1099511627776 from by omega),(show _<=1099511627776 from by omega),(by rw[List.length_map,kG,List.length_reverse];simp only[Int.toNat_zero];omega)⟩ ?_|fail))
      all_goals(conv=>whnf)
      refine⟨⟨f,i::seen,st,i::junk,(o::os)++[i]⟩,⟨h1,by dsimp only at h2 ⊢;simp at h2 ⊢;omega,by dsimp only;omega⟩,by dsimp only;omega,?_⟩;exact Lf.of2 [(0,_),(1,_),(2,_)] [] (by repeat(first|exact aM.nil|refine aM.cons rfl (by first|exact Rd.own (l:=(o::os)++[i]) (by simp) rfl rfl rfl|exact Rd.own (l:=(o::os)++[i]) (by simp) rfl (by simp) (by simp)|exact Rd.sl' rfl (by first|omega|(simp;done)|(simp;omega)) (by first|omega|(simp;done)|(simp;omega))|exact Rd.same (aH _ _)|exact rdA|fail) ?_)) (by repeat(first|exact Bxs.nil|refine Bxs.cons rfl rfl rfl (by first|exact Rb.cells (Rds.eqs hrev (aZ (fun _=>rfl) _)) rfl|exact Rb.cells (Rds.eqs hs2 (aW (fun _=>rfl))) rfl|exact Rb.cells (Rds.eqs (ak (by intro _;rfl) (o::os) _) (aD (by intro _;rfl) _)) rfl|exact rbB|exact rbC|fail) ?_)) rfl rfl
end Go.Proofs.YtjpgpihbhicinaaGreatDoor
