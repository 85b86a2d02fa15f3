/-
  A sort by the library's proof, as a contract: what is laid in the row, and what the comparison is asked.
-/
import Derived.Test.YtihggclfifimoaaGreatDoorChecked
import Derived.Shelf.SlSortCmp.WholeK
import Derived.Test.YtihggclfifimoaaGreatDoorHSL
import Derived.Test.YtihggclfifimoaaGreatDoorG1
set_option linter.unusedSectionVars false
namespace Go.Proofs.YtihggclfifimoaaGreatDoor
set_option maxRecDepth 100000
section
open Go Go.Am Go.Shelf Go.Sort Go.Lib
variable [GT]
theorem Az:∀ {a b:World},a.heap=b.heap->a.tape=b.tape->a.drawn=b.drawn->a.os=b.os->a.output=b.output->a=b:=by
 rintro⟨⟩ ⟨⟩ h1 h2 h3 h4 h5;simp only at h1 h2 h3 h4 h5;subst h1;subst h2;subst h3;subst h4;subst h5;rfl
section
variable {α:Type} [Inhabited α] {enc:α->List Value}{k:Nat}
theorem rG (hk:∀ x,(enc x).length=k) (d:Array α):(flatK enc k d).toList=d.toList.flatMap enc:=by
 have h:∀ (l:List α),((List.range (l.length*k)).map λt=>(enc l[t / k]!)[t % k]!)=l.flatMap enc:=by
  intro l
  induction l with
  | nil=>simp
  | cons x xs ih=>
   rw[kO,Nat.add_mul,Nat.one_mul,Nat.add_comm,List.range_add,List.map_append,List.flatMap_cons,<-ih,List.map_map];congr 1
   ·refine List.ext_getElem (by simp[hk]) λi h1 h2=>?_
    have hi:i<k:=by simpa using h1
    simp only[List.getElem_map,List.getElem_range,Nat.div_eq_of_lt hi,Nat.mod_eq_of_lt hi];have hx:i<(enc x).length:=by rw[hk];exact hi
    exact getElem!_pos (enc x) i hx
   ·refine List.map_congr_left λt ht=>?_
    have ht':t<xs.length*k:=by simpa using ht
    have k0:0<k:=Nat.pos_of_ne_zero λh=>by subst h;simp at ht'
    simp only[Function.comp];rw[Nat.add_comm k t,Nat.add_div_right _ k0,Nat.add_mod_right];rfl
 have:=h d.toList
 simp only[flatK,Array.toList_map,Array.toList_range];rw[<-this,Array.length_toList];refine List.map_congr_left λt ht=>?_
 have hq:t / k<d.size:=Nat.div_lt_of_lt_mul (by rw[Nat.mul_comm];simpa using ht);rw[getElem!_pos d _ hq,getElem!_pos d.toList _ (by simpa using hq)];simp
theorem rz {pre ys tl:List Value}{a F:Array Value}(ha:a.toList=pre++(ys++tl)) (hF:F.size=ys.length):(putCells id pre.length F a).toList=pre++(F.toList++tl):=by
 have hs:a.size=pre.length+(ys.length+tl.length):=by rw[<-Array.length_toList,ha];simp
 refine List.ext_getElem (by simp[putCells,hs,hF]) λi h1 h2=>?_
 have hi:i<a.size:=by simpa [putCells] using h1
 have ea:a[i]=(pre++(ys++tl))[i]'(by rw[<-ha];simpa using hi):=by
  have h0:a[i]=a.toList[i]'(by simpa using hi):=by simp
  rw[h0];simp only[ha]
 simp only[putCells,Array.getElem_toList,Array.getElem_mapIdx,id];by_cases c1:pre.length<=i
 ·by_cases c2:i<pre.length+F.size
  ·have e1:(pre++(F.toList++tl))[i]'h2=F[i-pre.length]'(by omega):=by
    have c1':¬i<pre.length:=by omega
    have c2':i-pre.length<F.size:=by omega
    simp[List.getElem_append,c1',c2']
   rw[if_pos ⟨c1,c2⟩,getElem!_pos F (i-pre.length) om,e1]
  ·have c1':¬i<pre.length:=by omega
   have c2':¬i-pre.length<ys.length:=by omega
   rw[if_neg (λh=>c2 h.2),ea];simp[List.getElem_append,c1',c2',hF]
 ·have c1':i<pre.length:=by omega
  rw[if_neg (λh=>c1 h.1),ea];simp[c1']
theorem Bp {w:World}{b:Nat}{pre tl:List Value}{a:Array Value}{e:TypeId}(hk:∀ x,(enc x).length=k) (d:Array α) (hb:w.heap[b]?=some (.cells a e (0,0))) (ha:a.toList=pre++(d.toList.flatMap enc++tl)):HoldsK enc k w b pre.length d:=by
 intro j hj;have hF:=rG hk d;have hj':j<(flatK enc k d).toList.length:=by simpa using hj
 constructor
 ·have e1:a[pre.length+j]?=some ((flatK enc k d)[j]!):=by
   rw[<-Array.getElem?_toList,ha,List.getElem?_append_right om,Nat.add_sub_cancel_left,<-hF,List.getElem?_append_left hj',Array.getElem?_toList,getElem!_pos (flatK enc k d) j hj,Array.getElem?_eq_getElem hj]
  simp[World.cell?,hb,e1]
 ·simp[World.frozen?,hb]
theorem tn {w:World}{b:Nat}{pre tl ys:List Value}{a:Array Value}{e:TypeId}(hk:∀ x,(enc x).length=k){d:Array α}(hb:w.heap[b]?=some (.cells a e (0,0))) (ha:a.toList=pre++(ys++tl)) (hd:d.size*k=ys.length) (m:Nat) (os:Array Obj) :
  ∃ a',(sortWorldK enc k w b pre.length m d os).heap[b]?=some (.cells a' e (0,0))∧a'.toList=pre++(d.toList.flatMap enc++tl)∧a'.size=a.size:=by
 have hlt:=(Array.getElem?_eq_some_iff.1 hb).1;refine⟨putCells id pre.length (flatK enc k d) a,?_,?_,by simp[putCells]⟩
 ·simp only[sortWorldK,grow,putRowK,putRow,mapBlock,Sort.ahead];rw[Array.getElem?_append_left (by simpa using hlt),Array.getElem?_modify,if_pos rfl,hb];rfl
 ·rw[rz ha (by simpa using hd),rG hk]
theorem j5 {w:World}{b off:Nat}{d:Array α}(m:Nat) (os:Array Obj){j:Nat}(hj:j<w.heap.size) (hne:j≠b):(sortWorldK enc k w b off m d os).heap[j]?=w.heap[j]?:=by
 simp only[sortWorldK,grow,putRowK,putRow,mapBlock,Sort.ahead];rw[Array.getElem?_append_left (by simpa using hj),Array.getElem?_modify,if_neg (λh=>hne h.symm)]
theorem j4 {w:World}{b off:Nat}{d:Array α}(m:Nat) (os:Array Obj):(sortWorldK enc k w b off m d os).heap.size=w.heap.size+os.size:=by
 simp[sortWorldK,grow,putRowK,putRow,mapBlock,Sort.ahead]
theorem Ed {P:Program}{g:FuncId}{encD:α->D}{cf:α->α->Int}(henc:∀ c x,V c (encD x) (.agg (enc x).toArray)) (hp:∀ x y,Pu P g [encD x,encD y] (i64 (cf x y)))
  {c:Ctx} (hI:GT.inv c) {b off size:Nat} (hS:∀ j,c.S j->j<c.w.heap.size∧j≠b):CmpLays P g #[] enc k cf b off size c.w:=by
 intro m os dk _ x y;generalize hW:sortWorldK enc k c.w b off m dk os=W;have hsz:W.heap.size=c.w.heap.size+os.size:=by rw[<-hW];exact j4 ..
 have R0:Rel { S:=c.S,φ:=λ_=>none,w:=W } ⟨0,[]⟩:=
  ⟨λj hj=>by have:=(hS j hj).1;show j<W.heap.size;omega,λ_ _=>rfl,λid box hg=>by simp[aB.get,ac] at hg,λid id' box box' b o o' hg=>by simp[aB.get,ac] at hg,
   GT.keep (c:=c) (λ_ h=>h) (λj hj=>by show W.heap[j]?=_;rw[<-hW];exact j5 _ _ (hS j hj).1 (hS j hj).2) hI⟩
 have hno:∀ j,¬bG { S:=c.S,φ:=λ_=>none,w:=W } ⟨0,[]⟩ j:=λb ⟨id,box,o,hg,_⟩=>by simp[aB.get,ac] at hg
 have:=(hp x y ⟨0,[]⟩).2 _ _ R0 (VS.cons (henc _ x) (VS.cons (henc _ y) VS.nil))
 refine Calls.mono this ?_;rintro e w' ⟨v,c',rfl,rfl,v1,r1,g1,_⟩;simp only[V] at v1;refine⟨by rw[v1.2],c'.w.drawn-W.drawn,c'.w.heap.extract W.heap.size c'.w.heap.size,Az ?_ g1.tape.tape ?_ g1.os g1.output⟩
 ·refine Array.ext_getElem? λi=>?_
  show _=(W.heap++_)[i]?;by_cases hi:i<W.heap.size
  ·rw[Array.getElem?_append_left hi];exact g1.frame i hi (hno i)
  ·have:=g1.size
   rw[Array.getElem?_append_right om,Array.getElem?_extract];have hs:W.heap.size<=c'.w.heap.size:=this;split
   ·congr 1;omega
   ·rw[Array.getElem?_eq_none om]
 ·have h:W.drawn<=c'.w.drawn:=g1.tape.drawn;show _=W.drawn+_;omega
theorem w9 (hk:∀ x,(enc x).length=k):∀ l:List α,(l.flatMap enc).length=l.length*k
 | []=>by simp
 | x::l=>by rw[List.flatMap_cons,kG,hk,w9 hk l,kO,Nat.add_mul,Nat.one_mul,Nat.add_comm]
theorem vL:∀ {a b:List D}{x y:List Value},f8 a=some x->f8 b=some y->f8 (a++b)=some (x++y)
 | [],b,x,y,ha,hb=>by simp only[f8,kA] at ha;subst ha;exact hb
 | d::a,b,x,y,ha,hb=>by
  simp only[f8] at ha;split at ha
  ·rename_i v vs h1 h2;simp only[kA] at ha;subst ha;simp only[List.cons_append,f8,h1,vL h2 hb]
  ·simp at ha
theorem sJ {cD:α->List D}(hT:∀ x,f8 (cD x)=some (enc x)):∀ l:List α,f8 (l.flatMap cD)=some (l.flatMap enc)
 | []=>rfl
 | x::l=>by rw[List.flatMap_cons,List.flatMap_cons];exact vL (hT x) (sJ hT l)
theorem zg {c:Ctx}{cD:α->List D}(hV:∀ x,VS c (cD x) (enc x)):∀ l:List α,VS c (l.flatMap cD) (l.flatMap enc)
 | []=>VS.nil
 | x::l=>by rw[List.flatMap_cons,List.flatMap_cons];exact(hV x).append (zg hV l)
theorem AC1.of_sort {P:Program}{g gs:FuncId}{cD:α->List D}{cf:α->α->Int}(hk:∀ x,(enc x).length=k) (hT:∀ x,f8 (cD x)=some (enc x)) (hV:∀ c x,VS c (cD x) (enc x)) (hen:dK P gs=true)
  (hp:∀ x y,Pu P g [.agg (cD x),.agg (cD y)] (i64 (cf x y)))
  {l s:List α} (hcall:∀ (b off cap:Nat) (d:Array α) (w:World),d.size=l.length->CmpLays P g #[] enc k cf b off d.size w->HoldsK enc k w b off d->b<w.heap.size->Calls P gs #[.slice (some ⟨b,off,none⟩) d.size cap,.func (.func g) #[] #[]] w λe w'=>
   e=.returned (.tuple #[])∧∃ d' n os,PermIn 0 d.size d d'∧SortedIn (ltOf cf) 0 d.size d'∧w'=sortWorldK enc k w b off n d' os)
  (hu:∀ l':List α,l'.Perm l->l'.Pairwise (λx y=>ltOf cf y x=false)->l'=s) :
  AC1 P gs [.sl 0 0 l.length l.length k false,.fn (.func g) [] []] ⟨1,[(0,.cells (l.flatMap cD) false)]⟩ (.tup []) ⟨1,[(0,.cells (s.flatMap cD) false)]⟩:=by
 refine⟨hen,λc vs R hv=>?_⟩;obtain⟨v1,vs1,rfl,h1,hv⟩:=hv.inv;obtain⟨v2,vs2,rfl,h2,hv⟩:=hv.inv;simp only[VS] at hv;subst hv;simp only[V,VS] at h1 h2;obtain⟨b,o,cap',e,z,hφ,rfl,hc1,hc2,-,hsh,hz⟩:=h1;obtain⟨xs,ys,rfl,rfl,rfl⟩:=h2;obtain⟨b',o',hφ',hS,a,e',pre,ys,tl,hb,ha,hpre,hvs,-⟩:=R.live 0 (.cells (l.flatMap cD) false) rfl;rw[hφ] at hφ';injection hφ' with hφ';injection hφ' with e1 e2;subst e1;subst e2;subst hpre
 have hys:ys=l.flatMap enc:=cQ (sJ hT l) hvs;subst hys;have hH:HoldsK enc k c.w b pre.length l.toArray:=Bp hk _ hb ha;have hblk:=(Array.getElem?_eq_some_iff.1 hb).1;have hL:CmpLays P g #[] enc k cf b pre.length l.toArray.size c.w:=Ed (encD:=λx=>.agg (cD x)) (λc x=>by simp only[V];exact⟨enc x,rfl,hV c x⟩) hp R.inv λj hj=>⟨R.size j hj,λe=>hS (e▸hj)⟩
 refine Calls.mono (hcall b pre.length cap' l.toArray c.w si hL hH hblk) ?_;rintro e w' ⟨rfl,d',n,os,⟨hp1,-,hp3⟩,hsort,rfl⟩;have hsz:d'.size=l.length:=by simpa using hp1
 have hd:d'.toList=s:=by
  refine hu _ ?_ ?_
  ·have e1:d'.extract 0 l.toArray.size=d':=by rw[show l.toArray.size=d'.size from by simp[hsz]];exact Array.extract_size
   have e2:l.toArray.extract 0 l.toArray.size=l.toArray:=Array.extract_size;rw[e1,e2] at hp3;exact hp3
  ·refine List.pairwise_iff_getElem.2 λi j hi hj hij=>?_
   have hi':i<d'.size:=by simpa using hi
   have hj':j<d'.size:=by simpa using hj
   have:=hsort i j (Nat.zero_le _) hij (by simp[<-hsz];omega)
   rw[getElem!_pos d' i hi',getElem!_pos d' j hj'] at this;simpa using this
 obtain⟨a',q1,q2,q3⟩:=tn (k:=k) (d:=d') hk hb ha (by rw[hsz];exact(w9 hk l).symm) n os;rw[hd] at q2;have hoth:∀ j,j<c.w.heap.size->j≠b->(sortWorldK enc k c.w b pre.length n d' os).heap[j]?=c.w.heap[j]?:=λj h1 h2=>j5 n os h1 h2
 have hsw:=j4 (enc:=enc) (k:=k) (w:=c.w) (b:=b) (off:=pre.length) (d:=d') n os;have hdr:c.w.drawn<=(sortWorldK enc k c.w b pre.length n d' os).drawn:=Nat.le_add_right _ _;have hos:(sortWorldK enc k c.w b pre.length n d' os).os=c.w.os∧(sortWorldK enc k c.w b pre.length n d' os).tape=c.w.tape∧(sortWorldK enc k c.w b pre.length n d' os).output=c.w.output:=⟨rfl,rfl,rfl⟩;generalize sortWorldK enc k c.w b pre.length n d' os=W at q1 hoth hsw hdr hos ⊢
 have K:am c { c with w:=W }:=⟨λ_ h=>h,λ_ _ h=>h,λj hj=>hoth j (R.size j hj) (λe=>hS (e▸hj)),λj e z hz=>by
  by_cases hj:j=b
  ·subst hj;simp only[World.shape?,hb,kA,kB] at hz;simp only[World.shape?,q1,q3,kA,kB];exact hz
  ·have hlt:j<c.w.heap.size:=by
    rcases Nat.lt_or_ge j c.w.heap.size with h|h
    ·exact h
    ·simp only[World.shape?,Array.getElem?_eq_none h] at hz;cases hz
   simp only[World.shape?] at hz ⊢
   rw[show({ c with w:=W }:Ctx).w.heap[j]?=c.w.heap[j]? from hoth j hlt hj];exact hz⟩
 have hget:∀ {x:List D} {id:Nat} {box:Box},aB.get ⟨1,[(0,.cells x false)]⟩ id=some box->id=0∧box=.cells x false:=λ{x id box} hg=>by
  simp only[aB.get,ac] at hg;split at hg
  ·rename_i h;simp only[kA] at hg;exact⟨by simpa [eq_comm] using h,hg.symm⟩
  ·cases hg
 refine⟨_,{ c with w:=W },rfl,rfl,by simp only[V];exact⟨[],rfl,VS.nil⟩,⟨λj hj=>?_,R.fresh,λid box hg=>?_,λid id' box box' b1 o1 o1' hg hg' _ _=>?_,GT.kept K R.inv⟩,
  ⟨K,hos.1,⟨hos.2.1,hdr⟩,hos.2.2,?_,kP _,λj hj hno=>hoth j hj λe=>hno ⟨0,_,_,rfl,e▸hφ⟩,λj ⟨id,box,o1,hg,h1⟩=>?_,λj hj=>.inl hj⟩,λ_ _=>rfl⟩
 ·have:=R.size j hj;show j<W.heap.size;omega
 ·obtain⟨rfl,rfl⟩:=hget hg;exact⟨b,pre.length,hφ,hS,a',e',pre,s.flatMap enc,tl,q1,q2,rfl,zg (λx=>hV _ x) s,λh=>by cases h⟩
 ·rw[(hget hg).1,(hget hg').1]
 ·show _<=W.heap.size;omega
 ·obtain⟨rfl,rfl⟩:=hget hg;exact .inr ⟨0,_,o1,rfl,h1⟩
end
end
section
open Go Go.Shelf Go.Am Go.Sort Go.Lib
variable [GT]
instance:Inhabited Rng:=⟨zR⟩
def encR (r:Rng):List Value:=[.int .i64 r.lo,.int .i64 r.hi]
theorem pV {x y:Rng}:ltOf iL x y=true↔(x.lo<y.lo∨x.lo=y.lo∧x.hi<y.hi):=by
 have h:ltOf iL x y=true↔iL x y<0:=⟨λh=>of_decide_eq_true h,λh=>decide_eq_true h⟩;rw[h];unfold iL;repeat' split
 all_goals omega
theorem oE {x y:Rng}:ltOf iL x y=false↔¬(x.lo<y.lo∨x.lo=y.lo∧x.hi<y.hi):=by
 rw[<-pV];simp
theorem mz:SWO (ltOf iL) where
 irrefl x:=oE.2 om
 trans x y z h1 h2:=by
  have h1:=pV.1 h1;have h2:=pV.1 h2;exact pV.2 om
 ntrans x y z h1 h2:=by
  have h1:=oE.1 h1;have h2:=oE.1 h2;exact oE.2 om
theorem BV {x y:Rng}(h1:ltOf iL y x=false) (h2:ltOf iL x y=false):x=y:=by
 have h1:=oE.1 h1;have h2:=oE.1 h2;obtain⟨a,b⟩:=x;obtain⟨a',b'⟩:=y;simp only at h1 h2
 have:a=a'∧b=b':=by omega
 rw[this.1,this.2]
theorem qP:∀ {l m:List Rng},l.Perm m->l.Pairwise (λx y=>ltOf iL y x=false)->m.Pairwise (λx y=>ltOf iL y x=false)->l=m
 | [],m,h,_,_=>(List.nil_perm.1 h).symm
 | x::l,[],h,_,_=>absurd h.symm si
 | x::l,y::m,h,h1,h2=>by
  have e:x=y:=by
   have hx:=h.mem_iff.1 (List.mem_cons_self (a:=x) (l:=l));have hy:=h.mem_iff.2 (List.mem_cons_self (a:=y) (l:=m));rcases List.mem_cons.1 hx with e|hx
   ·exact e
   rcases List.mem_cons.1 hy with e|hy
   ·exact e.symm
   exact BV ((List.pairwise_cons.1 h1).1 y hy) ((List.pairwise_cons.1 h2).1 x hx)
  subst e;rw[qP ((List.perm_cons x).1 h) (List.pairwise_cons.1 h1).2 (List.pairwise_cons.1 h2).2]
theorem oZ (l:List Rng):(gn ltR zR l).Perm l∧(gn ltR zR l).Pairwise λx y=>ltOf iL y x=false:=
 vW ltR zR (le:=λx y=>ltOf iL y x=false) (λx y h=>by
  cases e:ltOf iL y x with
  | false=>rfl
  | true=>exact absurd (mz.trans x y x h e) (by rw[mz.irrefl];simp)) (λx y h=>h) (λx y z h1 h2=>mz.ntrans z y x h2 h1) l
end
section
open Go Go.Am Go.Sort Classical
theorem xHT.rdX {p:Prop}(h:p:=by first|exact Rd.nil|exact Rd.sl' rfl hle'.symm hle'.symm|exact Rd.frzL aa aU rfl rfl hsl0.symm rfl rfl|exact Rd.sl' rfl sim sim|fail):p:=h
theorem xHT.rbX {p:Prop}(h:p:=by first|exact Rb.cells (Rds.eqs (ae (c:=bq) (sz:=2) aa (x::xs) (⟨0,1114111⟩:Rng)) (aG aU _)) rfl|exact Rb.cells (Rds.eqs (ae (c:=bq) (sz:=2) aa (x::xs) (⟨0,l[k].hi⟩:Rng)) (aG aU _)) rfl|exact Rb.cells (Rds.eqs (ae (c:=bq) (sz:=2) aa (x::xs) (⟨l[k].lo,1114111⟩:Rng)) (aG aU _)) rfl|exact Rb.cells (Rds.eqs (ae (c:=bq) (sz:=2) aa (x::xs) (⟨l[k].lo,l[k].hi⟩:Rng)) (aG aU _)) rfl|exact Rb.cells (Rds.eqs (ae (c:=bq) (sz:=2) aa (y::ys) s[k]) (aG aU _)) rfl|exact Rb.cells (Rds.eqs (by first|(rw[he];done)|fail) (aG aU _)) rfl|fail):p:=h
open xHT
variable [GT]
theorem G5 {l:List Rng}(hl:l.length<=100000):AC1 Tryz.prog 342 [.sl 0 0 l.length l.length 2 false,Hj] ⟨1,[(0,.cells (l.flatMap bq) false)]⟩ (.tup []) ⟨1,[(0,.cells ((gn ltR zR l).flatMap bq) false)]⟩:=
 AC1.of_sort (enc:=encR) (cD:=bq) (cf:=iL) (λ_=>rfl) (λ_=>rfl) (λc x=>VS.cons (by simp only[V];first|exact⟨trivial,rfl⟩|exact⟨rfl,rfl⟩|exact⟨rfl,trivial⟩|(simp;rfl)) (VS.cons (by simp only[V];first|exact⟨trivial,rfl⟩|exact⟨rfl,rfl⟩|exact⟨rfl,trivial⟩|(simp;rfl)) VS.nil)) (by kernel_rfl) (λ_ _=>Hk)
  (λb off cap d w hd hcmp hH hb=>AnyQ.slices_SortFunc FY 2 (λw=>lH Tryz.underlying201 w) Tryz.sizeOf201 encR (λ_=>rfl) (λx v hv=>by simp only[encR,kH,List.not_mem_nil,or_false] at hv;rcases hv with rfl|rfl<;>rfl) iL mz 343 #[] b off cap d w (λargs w=>eY (by kernel_rfl) args w) hcmp hH hb om)
  λl' hp hs=>qP (hp.trans (oZ l).1.symm) hs (oZ l).2
set_option maxHeartbeats 8000000 in
theorem vB {l:List Rng}(hl:l.length<=100000):Pu Tryz.prog 270 [bD l] (fJ (mkR l)):=by
 refine pv Tryz.func270 ?_;repeat' ((conv=>whnf);first|exact kQ|(refine bk ?_ ?_<;>intro _<;>try(exfalso;omega))|refine stq ?_)
 refine aH.by2 aA T0 (λ(k:Nat) (o:List Rng)=>⟨tmp 79 [(2,.ptr 0 0),(3,fB 1 2 o),(11,bD l),(12,i64 l.length),(13,i64 (k:Int))],⟨2,(0,.cells [aO] true)::gA 1 bq o⟩⟩)
  (λk o=>k<=l.length∧o=cT (l.take k)) (λk _=>l.length-k) 0 [] ⟨by omega,rfl⟩ ?_ ?_
 ·exact lq [(0,_)] []
 intro k o ⟨h3,h4⟩;have h5:o.length<=k:=by rw[h4];exact Nat.le_trans (qd _) (by simp;omega)
 by_cases hk:k<l.length
 ·by_cases ha:l[k].lo<0
  ·by_cases hb:1114111<l[k].hi
   ·
    cases o with
    | nil=>
     repeat' ((conv=>whnf);first|exact kQ|(refine bk ?_ ?_<;>intro _<;>try(exfalso;omega))|refine stq ?_)
     all_goals(conv=>whnf)
     all_goals first
      | (refine⟨k+1,[],⟨by omega,by rw[eN hk (a:=0) (b:=1114111) om om om];exact h4⟩,by omega,?_⟩
         exact lq [(0,_)] [])
      | (refine⟨k+1,[⟨0,1114111⟩],⟨by omega,by rw[dO hk (a:=0) (b:=1114111) om om om,<-h4];rfl⟩,by omega,?_⟩
         exact lq [(0,_),(1,_)] [])
    | cons x xs=>
     have hlen:(x::xs).length<=100000:=by omega
     repeat' ((conv=>whnf);first|exact kQ|(refine bk ?_ ?_<;>intro _<;>try(exfalso;omega))|refine stq ?_)
     all_goals(conv=>whnf)
     all_goals first
      | (refine⟨k+1,x::xs,⟨by omega,by rw[eN hk (a:=0) (b:=1114111) om om om];exact h4⟩,by omega,?_⟩
         exact lq [(0,_),(1,_)] [])
      | (refine⟨k+1,(x::xs)++[⟨0,1114111⟩],⟨by omega,by rw[dO hk (a:=0) (b:=1114111) om om om,<-h4]⟩,by omega,?_⟩
         exact lq [(0,_),(1,_)] [])
   ·
    cases o with
    | nil=>
     repeat' ((conv=>whnf);first|exact kQ|(refine bk ?_ ?_<;>intro _<;>try(exfalso;omega))|refine stq ?_)
     all_goals(conv=>whnf)
     all_goals first
      | (refine⟨k+1,[],⟨by omega,by rw[eN hk (a:=0) (b:=l[k].hi) om om om];exact h4⟩,by omega,?_⟩
         exact lq [(0,_)] [])
      | (refine⟨k+1,[⟨0,l[k].hi⟩],⟨by omega,by rw[dO hk (a:=0) (b:=l[k].hi) om om om,<-h4];rfl⟩,by omega,?_⟩
         exact lq [(0,_),(1,_)] [])
    | cons x xs=>
     have hlen:(x::xs).length<=100000:=by omega
     repeat' ((conv=>whnf);first|exact kQ|(refine bk ?_ ?_<;>intro _<;>try(exfalso;omega))|refine stq ?_)
     all_goals(conv=>whnf)
     all_goals first
      | (refine⟨k+1,x::xs,⟨by omega,by rw[eN hk (a:=0) (b:=l[k].hi) om om om];exact h4⟩,by omega,?_⟩
         exact lq [(0,_),(1,_)] [])
      | (refine⟨k+1,(x::xs)++[⟨0,l[k].hi⟩],⟨by omega,by rw[dO hk (a:=0) (b:=l[k].hi) om om om,<-h4]⟩,by omega,?_⟩
         exact lq [(0,_),(1,_)] [])
  ·by_cases hb:1114111<l[k].hi
   ·
    cases o with
    | nil=>
     repeat' ((conv=>whnf);first|exact kQ|(refine bk ?_ ?_<;>intro _<;>try(exfalso;omega))|refine stq ?_)
     all_goals(conv=>whnf)
     all_goals first
      | (refine⟨k+1,[],⟨by omega,by rw[eN hk (a:=l[k].lo) (b:=1114111) om om om];exact h4⟩,by omega,?_⟩
         exact lq [(0,_)] [])
      | (refine⟨k+1,[⟨l[k].lo,1114111⟩],⟨by omega,by rw[dO hk (a:=l[k].lo) (b:=1114111) om om om,<-h4];rfl⟩,by omega,?_⟩
         exact lq [(0,_),(1,_)] [])
    | cons x xs=>
     have hlen:(x::xs).length<=100000:=by omega
     repeat' ((conv=>whnf);first|exact kQ|(refine bk ?_ ?_<;>intro _<;>try(exfalso;omega))|refine stq ?_)
     all_goals(conv=>whnf)
     all_goals first
      | (refine⟨k+1,x::xs,⟨by omega,by rw[eN hk (a:=l[k].lo) (b:=1114111) om om om];exact h4⟩,by omega,?_⟩
         exact lq [(0,_),(1,_)] [])
      | (refine⟨k+1,(x::xs)++[⟨l[k].lo,1114111⟩],⟨by omega,by rw[dO hk (a:=l[k].lo) (b:=1114111) om om om,<-h4]⟩,by omega,?_⟩
         exact lq [(0,_),(1,_)] [])
   ·
    cases o with
    | nil=>
     repeat' ((conv=>whnf);first|exact kQ|(refine bk ?_ ?_<;>intro _<;>try(exfalso;omega))|refine stq ?_)
     all_goals(conv=>whnf)
     all_goals first
      | (refine⟨k+1,[],⟨by omega,by rw[eN hk (a:=l[k].lo) (b:=l[k].hi) om om om];exact h4⟩,by omega,?_⟩
         exact lq [(0,_)] [])
      | (refine⟨k+1,[⟨l[k].lo,l[k].hi⟩],⟨by omega,by rw[dO hk (a:=l[k].lo) (b:=l[k].hi) om om om,<-h4];rfl⟩,by omega,?_⟩
         exact lq [(0,_),(1,_)] [])
    | cons x xs=>
     have hlen:(x::xs).length<=100000:=by omega
     repeat' ((conv=>whnf);first|exact kQ|(refine bk ?_ ?_<;>intro _<;>try(exfalso;omega))|refine stq ?_)
     all_goals(conv=>whnf)
     all_goals first
      | (refine⟨k+1,x::xs,⟨by omega,by rw[eN hk (a:=l[k].lo) (b:=l[k].hi) om om om];exact h4⟩,by omega,?_⟩
         exact lq [(0,_),(1,_)] [])
      | (refine⟨k+1,(x::xs)++[⟨l[k].lo,l[k].hi⟩],⟨by omega,by rw[dO hk (a:=l[k].lo) (b:=l[k].hi) om om om,<-h4]⟩,by omega,?_⟩
         exact lq [(0,_),(1,_)] [])
 ·have ho:o=cT l:=by rw[h4,kE om]
  cases o with
  | nil=>
   have hs0:gn ltR zR (cT l)=[]:=by rw[<-ho];rfl
   have hend:mkR l=mrg [] (gn ltR zR (cT l)):=rfl;repeat' ((conv=>whnf);first|exact kQ|(refine bk ?_ ?_<;>intro _<;>try(exfalso;omega))|refine stq ?_|refine cp CX ?_|fail)
   generalize hs:gn ltR zR (cT l)=s at *
   refine aH.by2 aA T0 (λ(k:Nat) (out:List Rng)=>⟨tmp 79 [(2,.ptr 0 0),(7,fB 1 2 out),(36,bD s),(37,i64 s.length),(38,i64 (k:Int))],⟨2,(0,.cells [aO] true)::gA 1 bq out⟩⟩)
    (λk out=>((k<=s.length∧out.length<=k)∧∀ r,r∈out->0<=r.hi∧r.hi<=1114111)∧mrg [] s=mrg out (s.drop k)) (λk _=>s.length-k) 0 [] ⟨⟨⟨by omega,by simp⟩,by simp⟩,rfl⟩ ?_ ?_
   ·subst hs0;exact lq [(0,_)] []
   have hsl:s.length<=100000:=by rw[hs0];simp
   have hsb:∀ r,r∈s->0<=r.hi∧r.hi<=1114111:=by rw[hs0];simp
   intro k out ⟨⟨⟨h6,h7⟩,h9⟩,h8⟩;by_cases hk2:k<s.length
   ·have hd:s.drop k=s[k]::s.drop (k+1):=kK hk2;cases out with
    | nil=>
     repeat' ((conv=>whnf);first|exact kQ|(refine bk ?_ ?_<;>intro _<;>try(exfalso;omega))|refine stq ?_)
     all_goals(conv=>whnf)
     refine⟨k+1,[s[k]],⟨⟨⟨by omega,by simp⟩,λr hr=>by simp only[List.mem_singleton] at hr;subst hr;exact hsb _ (kM hk2)⟩,by rw[h8,hd];rfl⟩,by omega,?_⟩;exact lq [(0,_),(1,_)] []
    | cons y ys=>
     have hpos:0<(y::ys).length:=by simp
     have hle:(y::ys).length<=100000:=by omega
     have hb1:=h9 _ (kM (show(y::ys).length-1<(y::ys).length by omega));have hb2:=hsb _ (kM hk2);repeat' ((conv=>whnf);first|refine Get.flat1 aa ((y::ys).length-1) 1 (by dsimp only;omega) om rfl ?_|exact kQ|(refine bk ?_ ?_<;>intro _<;>try(exfalso;omega))|refine stq ?_|refine aX.by (id:=16) aA T0 [0,0,2,0,0,16,56,120,248,0,512,2040,4095,8191,16383] (by kernel_rfl) ?_|refine cA.at ((y::ys).length-1) om om ?_|refine Put.flat1 aa ((y::ys).length-1) 1 ⟨((y::ys)[(y::ys).length-1]'(by omega)).lo,s[k].hi⟩ (by dsimp only;omega) om om rfl ?_|refine Put.flat1 aa ((y::ys).length-1) 1 ⟨((y::ys)[(y::ys).length-1]'(by omega)).lo,((y::ys)[(y::ys).length-1]'(by omega)).hi⟩ (by dsimp only;omega) om om rfl ?_|fail)
     all_goals(conv=>whnf)
     all_goals first
      | (have hj:=m9 (l:=s.drop (k+1)) hpos asm (hi:=s[k].hi) om
         obtain⟨y',ys',he⟩:=iW y ys ((y::ys).length-1) ⟨((y::ys)[(y::ys).length-1]'(by omega)).lo,s[k].hi⟩;have hle':(y' :: ys').length=(y::ys).length:=by rw[<-he];simp
         refine⟨k+1,y' :: ys',⟨⟨⟨by omega,by omega⟩,λr hr=>by rw[<-he] at hr;rcases List.mem_or_eq_of_mem_set hr with hr|rfl<;>first|exact h9 r hr|exact hb2⟩,by rw[h8,hd,hj,he]⟩,by omega,?_⟩
         exact lq [(0,_),(1,_)] [])
      | (have hj:=m9 (l:=s.drop (k+1)) hpos asm (hi:=((y::ys)[(y::ys).length-1]'(by omega)).hi) om
         obtain⟨y',ys',he⟩:=iW y ys ((y::ys).length-1) ⟨((y::ys)[(y::ys).length-1]'(by omega)).lo,((y::ys)[(y::ys).length-1]'(by omega)).hi⟩;have hle':(y' :: ys').length=(y::ys).length:=by rw[<-he];simp
         refine⟨k+1,y' :: ys',⟨⟨⟨by omega,by omega⟩,λr hr=>by rw[<-he] at hr;rcases List.mem_or_eq_of_mem_set hr with hr|rfl<;>first|exact h9 r hr|exact hb1⟩,by rw[h8,hd,hj,he]⟩,by omega,?_⟩
         exact lq [(0,_),(1,_)] [])
      | (refine⟨k+1,(y::ys)++[s[k]],⟨⟨⟨by omega,by rw[kG];simp only[List.length_singleton];omega⟩,λr hr=>by rcases List.mem_append.1 hr with hr|hr<;>first|exact h9 r hr|exact(List.mem_singleton.1 hr)▸hb2⟩,by rw[h8,hd,z6 hpos asm]⟩,by omega,?_⟩
         exact lq [(0,_),(1,_)] [])
   ·have he:mrg [] s=out:=by rw[h8,List.drop_of_length_le om];rfl
    rw[hend,he];cases out with
    | nil=>
     repeat' ((conv=>whnf);first|exact kQ|(refine bk ?_ ?_<;>intro _<;>try(exfalso;omega))|refine stq ?_)
     all_goals(conv=>whnf)
     exact⟨.agg (.cons .nil .nil)⟩
    | cons y ys=>
     repeat' ((conv=>whnf);first|exact kQ|(refine bk ?_ ?_<;>intro _<;>try(exfalso;omega))|refine stq ?_)
     all_goals(conv=>whnf)
     exact⟨.agg (.cons (Rd.frzL aa aU rfl rfl rfl rfl rfl) .nil)⟩
  | cons x xs=>
   have hlen:(x::xs).length<=100000:=by omega
   have hend:mkR l=mrg [] (gn ltR zR (x::xs)):=by rw[ho];rfl
   have hsl0:(gn ltR zR (x::xs)).length=(x::xs).length:=srtG_len ..;repeat' ((conv=>whnf);first|exact kQ|(refine bk ?_ ?_<;>intro _<;>try(exfalso;omega))|refine stq ?_|refine Cll.emb (G5 (l:=x::xs) hlen) [(0,1)] [] (.tup []) [(1,.cells ((gn ltR zR (x::xs)).flatMap bq) false)] [(0,.cells [aO] true)] rfl cZ bxA rdA bxA reA ?_|fail)
   have hsb0:∀ r,r∈gn ltR zR (x::xs)->0<=r.hi∧r.hi<=1114111:=λr hr=>BQ (by rw[<-ho];exact(j0 _).1.mem_iff.1 hr)
   generalize hs:gn ltR zR (x::xs)=s at *
   refine aH.by2 aA T0 (λ(k:Nat) (out:List Rng)=>⟨tmp 79 [(2,.ptr 0 0),(7,fB 1 2 out),(36,bD s),(37,i64 s.length),(38,i64 (k:Int))],⟨2,(0,.cells [aO] true)::gA 1 bq out⟩⟩)
    (λk out=>((k<=s.length∧out.length<=k)∧∀ r,r∈out->0<=r.hi∧r.hi<=1114111)∧mrg [] s=mrg out (s.drop k)) (λk _=>s.length-k) 0 [] ⟨⟨⟨by omega,by simp⟩,by simp⟩,rfl⟩ ?_ ?_
   ·exact lq [(0,_)] [1]
   have hsl:s.length<=100000:=by omega
   have hsb:=hsb0;intro k out ⟨⟨⟨h6,h7⟩,h9⟩,h8⟩;by_cases hk2:k<s.length
   ·have hd:s.drop k=s[k]::s.drop (k+1):=kK hk2;cases out with
    | nil=>
     repeat' ((conv=>whnf);first|exact kQ|(refine bk ?_ ?_<;>intro _<;>try(exfalso;omega))|refine stq ?_)
     all_goals(conv=>whnf)
     refine⟨k+1,[s[k]],⟨⟨⟨by omega,by simp⟩,λr hr=>by simp only[List.mem_singleton] at hr;subst hr;exact hsb _ (kM hk2)⟩,by rw[h8,hd];rfl⟩,by omega,?_⟩;exact lq [(0,_),(1,_)] []
    | cons y ys=>
     have hpos:0<(y::ys).length:=by simp
     have hle:(y::ys).length<=100000:=by omega
     have hb1:=h9 _ (kM (show(y::ys).length-1<(y::ys).length by omega));have hb2:=hsb _ (kM hk2);repeat' ((conv=>whnf);first|refine Get.flat1 aa ((y::ys).length-1) 1 (by dsimp only;omega) om rfl ?_|exact kQ|(refine bk ?_ ?_<;>intro _<;>try(exfalso;omega))|refine stq ?_|refine aX.by (id:=16) aA T0 [0,0,2,0,0,16,56,120,248,0,512,2040,4095,8191,16383] (by kernel_rfl) ?_|refine cA.at ((y::ys).length-1) om om ?_|refine Put.flat1 aa ((y::ys).length-1) 1 ⟨((y::ys)[(y::ys).length-1]'(by omega)).lo,s[k].hi⟩ (by dsimp only;omega) om om rfl ?_|refine Put.flat1 aa ((y::ys).length-1) 1 ⟨((y::ys)[(y::ys).length-1]'(by omega)).lo,((y::ys)[(y::ys).length-1]'(by omega)).hi⟩ (by dsimp only;omega) om om rfl ?_|fail)
     all_goals(conv=>whnf)
     all_goals first
      | (have hj:=m9 (l:=s.drop (k+1)) hpos asm (hi:=s[k].hi) om
         obtain⟨y',ys',he⟩:=iW y ys ((y::ys).length-1) ⟨((y::ys)[(y::ys).length-1]'(by omega)).lo,s[k].hi⟩;have hle':(y' :: ys').length=(y::ys).length:=by rw[<-he];simp
         refine⟨k+1,y' :: ys',⟨⟨⟨by omega,by omega⟩,λr hr=>by rw[<-he] at hr;rcases List.mem_or_eq_of_mem_set hr with hr|rfl<;>first|exact h9 r hr|exact hb2⟩,by rw[h8,hd,hj,he]⟩,by omega,?_⟩
         exact lq [(0,_),(1,_)] [])
      | (have hj:=m9 (l:=s.drop (k+1)) hpos asm (hi:=((y::ys)[(y::ys).length-1]'(by omega)).hi) om
         obtain⟨y',ys',he⟩:=iW y ys ((y::ys).length-1) ⟨((y::ys)[(y::ys).length-1]'(by omega)).lo,((y::ys)[(y::ys).length-1]'(by omega)).hi⟩;have hle':(y' :: ys').length=(y::ys).length:=by rw[<-he];simp
         refine⟨k+1,y' :: ys',⟨⟨⟨by omega,by omega⟩,λr hr=>by rw[<-he] at hr;rcases List.mem_or_eq_of_mem_set hr with hr|rfl<;>first|exact h9 r hr|exact hb1⟩,by rw[h8,hd,hj,he]⟩,by omega,?_⟩
         exact lq [(0,_),(1,_)] [])
      | (refine⟨k+1,(y::ys)++[s[k]],⟨⟨⟨by omega,by rw[kG];simp only[List.length_singleton];omega⟩,λr hr=>by rcases List.mem_append.1 hr with hr|hr<;>first|exact h9 r hr|exact(List.mem_singleton.1 hr)▸hb2⟩,by rw[h8,hd,z6 hpos asm]⟩,by omega,?_⟩
         exact lq [(0,_),(1,_)] [])
   ·have he:mrg [] s=out:=by rw[h8,List.drop_of_length_le om];rfl
    rw[hend,he];cases out with
    | nil=>
     repeat' ((conv=>whnf);first|exact kQ|(refine bk ?_ ?_<;>intro _<;>try(exfalso;omega))|refine stq ?_)
     all_goals(conv=>whnf)
     exact⟨.agg (.cons .nil .nil)⟩
    | cons y ys=>
     repeat' ((conv=>whnf);first|exact kQ|(refine bk ?_ ?_<;>intro _<;>try(exfalso;omega))|refine stq ?_)
     all_goals(conv=>whnf)
     exact⟨.agg (.cons (Rd.frzL aa aU rfl rfl rfl rfl rfl) .nil)⟩
end
end Go.Proofs.YtihggclfifimoaaGreatDoor
