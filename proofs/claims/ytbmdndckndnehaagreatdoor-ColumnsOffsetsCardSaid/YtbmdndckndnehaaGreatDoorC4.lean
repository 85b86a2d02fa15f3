/-
  Contracts of functions over data: closures of nets.
-/
import Derived.Test.YtbmdndckndnehaaGreatDoorC0
set_option linter.unusedSectionVars false
namespace Go.Proofs.YtbmdndckndnehaaGreatDoor
open Go Go.Am Classical
set_option maxRecDepth 100000
theorem xC4.rdX {p:Prop}(h:p:=by first|exact Rd.same (fK _ _)|exact Rd.sl' rfl sim sim|exact Rd.sl' rfl (by first|omega|(simp;done)|(simp;omega)) (by first|omega|(simp;done)|(simp;omega))|exact Rd.own (l:=(o::os)++[i]) sim rfl rfl rfl|exact Rd.own (l:=(o::os)++[i]) sim rfl sim sim|fail):p:=h
theorem xC4.rbX {p:Prop}(h:p:=by first|exact Rb.cells (Rds.eqs (bR om (λi _=>rfl)) (bE (λ_=>rfl))) rfl|exact Rb.cells (Rds.eqs hrev (aS (λ_=>rfl) _)) rfl|exact Rb.cells (Rds.same (bE (λ_=>rfl))) rfl|exact Rb.cells (Rds.eqs hs2 (bE (λ_=>rfl))) rfl|exact Rb.cells (Rds.eqs (af (by intro _;rfl) (o::os) _) (aF (by intro _;rfl) _)) rfl|exact Rb.cells (Rds.eqs (aO _) (aS (λ_=>rfl) _)) rfl|exact Rb.cells (Rds.eqs sim (aS (λ_=>rfl) _)) rfl|exact Rb.cells (Rds.eqs (spl' (by first|omega|(simp;done)|(simp;omega))) (aS (λ_=>rfl) _)) rfl|exact Rb.cells (Rds.eqs (grw' rfl (by first|omega|(simp;done)|(simp;omega))) (aS (λ_=>rfl) _)) rfl|fail):p:=h
open xC4
variable [GT]
structure Nd where
 cls:List Int
 to:List Nat
abbrev ndC (n:Nd):List D:=[aD n.cls,dF n.to]
abbrev nds (l:List Nd):D:=lstS ndC l
theorem oe (l:List Nd):aN (nds l)=true:=fL (λx=>by simp[aE,aI,bt]) l
abbrev iQ (l:List Nd) (b:Bool):D:=.iptr [nds l,boo b]
theorem fK (l:List Nd) (b:Bool):aN (iQ l b)=true:=by simp[aN,aE,oe]
def clo (ns:List Nd):Nat->List Nat->List Nat->List Nat->Option (List Nat)
 | 0,_,_,_=>none
 | f+1,seen,st,out=>
  match st with
  | []=>if out.length<=12 then some (srt out) else none
  | i::st=>
   match ns[i]? with
   | none=>none
   | some n=>
    if seen.contains i then clo ns f seen st out
    else if i=0 then some [0]
    else if n.cls≠[] then clo ns f (i::seen) st (out++[i])
    else if st.length+n.to.length<=100000 then clo ns f (i::seen) (n.to.reverse++st) out
    else none
theorem yz:Pu Tryz.prog 191 [aJ] (.tup []):=by
 have hlen:Pu Tryz.prog 213 [.v (.int .u64 (IntKind.u64.wrap (0:Int)))] (i64 0):=CK (n:=0) om;refine pv Tryz.func191 ?_;repeat' ((conv=>whnf);first|exact kQ|(refine bk ?_ ?_<;>intro _<;>try(exfalso;omega))|refine stq ?_|refine cp hlen ?_|(apply Cll.inl aB T0 Tryz.func212 rfl rfl ?_;rotate_left)|(apply Cll.inl aB T0 Tryz.func234 rfl rfl ?_;rotate_left)|exact⟨Or.inr rfl,rfl,rfl⟩|exact⟨Or.inl rfl,rfl,rfl⟩|refine aH.times aB T0 1 ?_|fail)
 all_goals(conv=>whnf)
 exact aC.same rfl rfl
theorem b8:∀ l:List Nat,d9 (l.map λk:Nat=>i64 (k:Int))=true
 | []=>rfl
 | _::s=>b8 s
theorem spl (a b c:List Nat){m:Nat}(hm:m=a.length):splice ((a++b).map cN) m (c.map cN)=((a++c)++b.drop c.length).map cN:=by
 subst hm;simp[splice,List.drop_append]
theorem grw (a b c:List Nat){z m:Nat}(hz:z=0) (hm:m=a.length):(((a++b).map cN).drop z).take m++c.map cN=((a++c)++[]).map cN:=by
 subst hz;subst hm;simp
structure CSt where
 f:Nat
 seen:List Nat
 st:List Nat
 junk:List Nat
 out:List Nat
set_option maxHeartbeats 2000000 in
theorem uw {ns:List Nd}{b:Bool}{x:Nat}{xs r:List Nat}{F:Nat}(hF:F<=100000) (hl:ns.length<=100000) (hx:xs.length<100000) (h:clo ns F [] (x::xs).reverse []=some r) :
  Pu Tryz.prog 161 [iQ ns b,dF (x::xs)] (dF r):=by
 have hx2:(x::xs).length=xs.length+1:=rfl;refine pv Tryz.func161 ?_;repeat' ((conv=>whnf);first|exact kQ|(refine bk ?_ ?_<;>intro _<;>try(exfalso;omega))|refine stq ?_|(apply Cll.inl aB T0 Tryz.func190 rfl rfl ?_;rotate_left)|exact⟨Or.inr rfl,rfl,rfl⟩|refine c9.lst ?_|refine Chk.mk (b8 _) ?_|refine Chk.growX 8 1 rfl rfl om om si ?_|fail)
 all_goals(conv=>whnf)
 refine aH.by aB T0 (λc:CSt=>⟨tmp 70 [(0,iQ ns b),(5,.sl 0 0 ns.length ns.length 1 true),(6,aU 1 1 c.out),(7,.sl 2 0 c.st.length (c.st.length+c.junk.length) 1 false)],⟨3,(0,.cells (aZ ns.length λi=>boo (c.seen.contains i)) true)::(2,.cells ((c.st.reverse++c.junk).map cN) false)::bz 1 (λk=>[cN k]) c.out⟩⟩)
  (λc=>clo ns c.f c.seen c.st c.out=some r∧c.out.length+c.f<=100000∧c.st.length<=100000) (λc=>c.f) ⟨F,[],(x::xs).reverse,[],[]⟩ ⟨h,by simp;omega,by simp;omega⟩ ?_ ?_
 ·exact lq [(0,_),(2,_)] []
 intro⟨f,seen,st,junk,out⟩ ⟨h1,h2,h3⟩;dsimp only at h1 h2 h3 ⊢;cases f with
 | zero=>simp[clo] at h1
 | succ f=>
 cases st with
 | nil=>
  have hz:([]:List Nat).length=0:=rfl;simp only[clo] at h1;by_cases ho:out.length<=12
  ·rw[if_pos ho] at h1;injection h1 with h1;subst h1
   cases out with
   | nil=>
    repeat' ((conv=>whnf);first|exact kQ|(refine bk ?_ ?_<;>intro _<;>try(exfalso;omega))|refine stq ?_|refine cp yz ?_|fail)
    all_goals(conv=>whnf)
    exact⟨.nil⟩
   | cons o os=>
    repeat' ((conv=>whnf);first|exact kQ|(refine bk ?_ ?_<;>intro _<;>try(exfalso;omega))|refine stq ?_|refine Cll.emb (Sort_c (l:=o::os) ho si) [(0,1)] [] (.tup []) [(1,.cells ((srt (o::os)).map cN) false)] [(0,.cells (aZ ns.length λi=>boo (seen.contains i)) true),(2,.cells (([].reverse++junk).map cN) false)] rfl cE bxA rdA bxA reA ?_|fail)
    all_goals(conv=>whnf)
    exact aC.frz1 (l:=srt (o::os)) (f:=cN) rfl rfl (by simp[srt]) (λ_=>rfl) rfl
  ·rw[if_neg ho] at h1;cases h1
 | cons i st=>
  simp only[clo] at h1;cases hi:ns[i]? with
  | none=>simp[hi] at h1
  | some n=>
  simp only[hi] at h1;obtain⟨hlt,hget⟩:=List.getElem?_eq_some_iff.1 hi;subst hget;have hst:(i::st).length=st.length+1:=rfl;have hrev:((i::st).reverse++junk).map cN=(st.reverse++i::junk).map cN:=by simp
  have hgt:(((i::st).reverse++junk).map cN)[st.length]?=some (cN i):=by rw[hrev];simp
  have hs2:(aZ ns.length λk=>boo (seen.contains k)).set i (boo true)=aZ ns.length λk=>boo ((i::seen).contains k):=bv si (λk _ hk=>by simp[hk])
  cases hs:seen.contains i with
  | true=>
   rw[hs,if_pos rfl] at h1;cases out with
   | nil=>
    repeat' ((conv=>whnf);first|exact kQ|(refine bk ?_ ?_<;>intro _<;>try(exfalso;omega))|refine stq ?_|refine cO.at st.length om om ?_|refine cO.at i om om ?_|refine Get.one hgt ?_|refine Get.F (k:=i) (d:=boo true) hlt (by rw[hs]) ?_|refine Put.one (by simp;omega) ?_|refine Idx.atS (c:=ndC) (λ_=>rfl) i rfl hlt ?_|refine c9.lst ?_|refine Chk.mk (b8 _) ?_|refine Chk.growX 8 1 rfl rfl om om (by simp;omega) ?_|fail)
    all_goals(conv=>whnf)
    refine⟨⟨f,seen,st,i::junk,[]⟩,⟨h1,by dsimp only;omega,by dsimp only;omega⟩,by dsimp only;omega,?_⟩;exact lq [(0,_),(2,_)] []
   | cons o os=>
    repeat' ((conv=>whnf);first|exact kQ|(refine bk ?_ ?_<;>intro _<;>try(exfalso;omega))|refine stq ?_|refine cO.at st.length om om ?_|refine cO.at i om om ?_|refine Get.one hgt ?_|refine Get.F (k:=i) (d:=boo true) hlt (by rw[hs]) ?_|refine Put.one (by simp;omega) ?_|refine Idx.atS (c:=ndC) (λ_=>rfl) i rfl hlt ?_|refine c9.lst ?_|refine Chk.mk (b8 _) ?_|refine Chk.growX 8 1 rfl rfl om om (by simp;omega) ?_|fail)
    all_goals(conv=>whnf)
    refine⟨⟨f,seen,st,i::junk,o::os⟩,⟨h1,by dsimp only;omega,by dsimp only;omega⟩,by dsimp only;omega,?_⟩;exact lq [(0,_),(1,_),(2,_)] []
  | false=>
   rw[hs,if_neg si] at h1
   have spl':∀ {m:Nat},m=st.length->splice (((i::st).reverse++junk).map cN) m (ns[i].to.map cN)=((ns[i].to.reverse++st).reverse++(i::junk).drop ns[i].to.length).map cN:=λhm=>by
    rw[hrev,spl _ _ _ (by simp;exact hm)];simp
   have grw':∀ {z m:Nat},z=0->m=st.length->((((i::st).reverse++junk).map cN).drop z).take m++ns[i].to.map cN=((ns[i].to.reverse++st).reverse++[]).map cN:=λhz hm=>by
    rw[hrev,grw _ _ _ hz (by simp;exact hm)];simp
   by_cases h0:i=0
   ·rw[if_pos h0] at h1;injection h1 with h1;subst h1
    cases out with
    | nil=>
     repeat' ((conv=>whnf);first|exact kQ|(refine bk ?_ ?_<;>intro _<;>try(exfalso;omega))|refine stq ?_|refine cO.at st.length om om ?_|refine cO.at i om om ?_|refine Get.one hgt ?_|refine Get.F (k:=i) (d:=boo false) hlt (by rw[hs]) ?_|refine Put.one (by simp;omega) ?_|refine Idx.atS (c:=ndC) (λ_=>rfl) i rfl hlt ?_|refine c9.lst ?_|refine Chk.mk (b8 _) ?_|refine Chk.mk (by rw[List.length_map,kG,List.length_reverse];simp only[Int.toNat_zero];omega) ?_|refine Chk.mk ⟨(show _*8<=1099511627776 from by omega),(show _<=1099511627776 from by omega),(by rw[List.length_map,kG,List.length_reverse];simp only[Int.toNat_zero];omega)⟩ ?_|fail)
     all_goals(conv=>whnf)
     exact aC.frz1 (l:=[0]) (f:=cN) rfl rfl rfl (λ_=>rfl) rfl
    | cons o os=>
     repeat' ((conv=>whnf);first|exact kQ|(refine bk ?_ ?_<;>intro _<;>try(exfalso;omega))|refine stq ?_|refine cO.at st.length om om ?_|refine cO.at i om om ?_|refine Get.one hgt ?_|refine Get.F (k:=i) (d:=boo false) hlt (by rw[hs]) ?_|refine Put.one (by simp;omega) ?_|refine Idx.atS (c:=ndC) (λ_=>rfl) i rfl hlt ?_|refine c9.lst ?_|refine Chk.mk (b8 _) ?_|refine Chk.mk (by rw[List.length_map,kG,List.length_reverse];simp only[Int.toNat_zero];omega) ?_|refine Chk.mk ⟨(show _*8<=1099511627776 from by omega),(show _<=1099511627776 from by omega),(by rw[List.length_map,kG,List.length_reverse];simp only[Int.toNat_zero];omega)⟩ ?_|fail)
     all_goals(conv=>whnf)
     exact aC.frz1 (l:=[0]) (f:=cN) rfl rfl rfl (λ_=>rfl) rfl
   ·rw[if_neg h0] at h1;by_cases hc:ns[i].cls=[]
    ·rw[if_neg (by simp[hc])] at h1;have hc2:ns[i].cls.length=0:=by rw[hc];rfl
     by_cases hg:st.length+ns[i].to.length<=100000
     ·rw[if_pos hg] at h1;cases out with
      | nil=>
       repeat' ((conv=>whnf);first|exact kQ|(refine bk ?_ ?_<;>intro _<;>try(exfalso;omega))|refine stq ?_|refine cO.at st.length om om ?_|refine cO.at i om om ?_|refine Get.one hgt ?_|refine Get.F (k:=i) (d:=boo false) hlt (by rw[hs]) ?_|refine Put.one (by simp;omega) ?_|refine Idx.atS (c:=ndC) (λ_=>rfl) i rfl hlt ?_|refine c9.lst ?_|refine Chk.mk (b8 _) ?_|refine Chk.mk (by rw[List.length_map,kG,List.length_reverse];simp only[Int.toNat_zero];omega) ?_|refine Chk.mk ⟨(show _*8<=1099511627776 from by omega),(show _<=1099511627776 from by omega),(by rw[List.length_map,kG,List.length_reverse];simp only[Int.toNat_zero];omega)⟩ ?_|fail)
       all_goals(conv=>whnf)
       ·refine⟨⟨f,i::seen,ns[i].to.reverse++st,(i::junk).drop ns[i].to.length,[]⟩,⟨h1,by dsimp only;omega,by simp;omega⟩,by dsimp only;omega,?_⟩;exact lq [(0,_),(2,_)] []
       ·refine⟨⟨f,i::seen,ns[i].to.reverse++st,[],[]⟩,⟨h1,by dsimp only;omega,by simp;omega⟩,by dsimp only;omega,?_⟩;exact lq [(0,_),(2,_)] []
      | cons o os=>
       repeat' ((conv=>whnf);first|exact kQ|(refine bk ?_ ?_<;>intro _<;>try(exfalso;omega))|refine stq ?_|refine cO.at st.length om om ?_|refine cO.at i om om ?_|refine Get.one hgt ?_|refine Get.F (k:=i) (d:=boo false) hlt (by rw[hs]) ?_|refine Put.one (by simp;omega) ?_|refine Idx.atS (c:=ndC) (λ_=>rfl) i rfl hlt ?_|refine c9.lst ?_|refine Chk.mk (b8 _) ?_|refine Chk.mk (by rw[List.length_map,kG,List.length_reverse];simp only[Int.toNat_zero];omega) ?_|refine Chk.mk ⟨(show _*8<=1099511627776 from by omega),(show _<=1099511627776 from by omega),(by rw[List.length_map,kG,List.length_reverse];simp only[Int.toNat_zero];omega)⟩ ?_|fail)
       all_goals(conv=>whnf)
       ·refine⟨⟨f,i::seen,ns[i].to.reverse++st,(i::junk).drop ns[i].to.length,o::os⟩,⟨h1,by dsimp only;omega,by simp;omega⟩,by dsimp only;omega,?_⟩;exact lq [(0,_),(1,_),(2,_)] []
       ·refine⟨⟨f,i::seen,ns[i].to.reverse++st,[],o::os⟩,⟨h1,by dsimp only;omega,by simp;omega⟩,by dsimp only;omega,?_⟩;exact lq [(0,_),(1,_),(2,_)] []
     ·rw[if_neg hg] at h1;cases h1
    ·rw[if_pos hc] at h1;have hc2:0<ns[i].cls.length:=List.length_pos_iff.2 hc;cases out with
     | nil=>
      repeat' ((conv=>whnf);first|exact kQ|(refine bk ?_ ?_<;>intro _<;>try(exfalso;omega))|refine stq ?_|refine cO.at st.length om om ?_|refine cO.at i om om ?_|refine Get.one hgt ?_|refine Get.F (k:=i) (d:=boo false) hlt (by rw[hs]) ?_|refine Put.one (by simp;omega) ?_|refine Idx.atS (c:=ndC) (λ_=>rfl) i rfl hlt ?_|refine c9.lst ?_|refine Chk.mk (b8 _) ?_|refine Chk.mk (by rw[List.length_map,kG,List.length_reverse];simp only[Int.toNat_zero];omega) ?_|refine Chk.mk ⟨(show _*8<=1099511627776 from by omega),(show _<=1099511627776 from by omega),(by rw[List.length_map,kG,List.length_reverse];simp only[Int.toNat_zero];omega)⟩ ?_|fail)
      all_goals(conv=>whnf)
      refine⟨⟨f,i::seen,st,i::junk,[i]⟩,⟨h1,by dsimp only at h2 ⊢;simp at h2 ⊢;omega,by dsimp only;omega⟩,by dsimp only;omega,?_⟩;exact lq [(0,_),(1,_),(2,_)] []
     | cons o os=>
      have ho:(o::os).length=os.length+1:=rfl;repeat' ((conv=>whnf);first|exact kQ|(refine bk ?_ ?_<;>intro _<;>try(exfalso;omega))|refine stq ?_|refine cO.at st.length om om ?_|refine cO.at i om om ?_|refine Get.one hgt ?_|refine Get.F (k:=i) (d:=boo false) hlt (by rw[hs]) ?_|refine Put.one (by simp;omega) ?_|refine Idx.atS (c:=ndC) (λ_=>rfl) i rfl hlt ?_|refine c9.lst ?_|refine Chk.mk (b8 _) ?_|refine Chk.mk (by rw[List.length_map,kG,List.length_reverse];simp only[Int.toNat_zero];omega) ?_|refine Chk.mk ⟨(show _*8<=1099511627776 from by omega),(show _<=1099511627776 from by omega),(by rw[List.length_map,kG,List.length_reverse];simp only[Int.toNat_zero];omega)⟩ ?_|fail)
      all_goals(conv=>whnf)
      refine⟨⟨f,i::seen,st,i::junk,(o::os)++[i]⟩,⟨h1,by dsimp only at h2 ⊢;simp at h2 ⊢;omega,by dsimp only;omega⟩,by dsimp only;omega,?_⟩;exact lq [(0,_),(1,_),(2,_)] []
end Go.Proofs.YtbmdndckndnehaaGreatDoor
