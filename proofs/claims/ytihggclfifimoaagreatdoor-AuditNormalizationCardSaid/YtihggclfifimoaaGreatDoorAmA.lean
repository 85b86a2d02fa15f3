/-
  The abstract machine: what Go code does to abstract values, and that it does so in the model. No condition beyond what each theorem says.
-/
import Derived.OrdersIn
import Derived.RangeFuncLeaves
import Derived.Below
import Derived.KernelRfl
import Derived.Laws.Cells
import Derived.Laws.Entries
import Derived.ChangeKeysEq
import Derived.Lib.Strings
import Derived.MapKept
import Derived.Laws.CopyRow
import Derived.Laws.MakeOwn
import Derived.Laws.Append
import Derived.Laws.BytesString
import Derived.Maps.RangeRun
set_option linter.unusedSectionVars false
/-
 The abstract machine,part 1: abstract values (D),boxes,heaps;what it means that a value of the model reads as an abstract one (V),that a world fits a heap (Rel),that one state has grown out of another (aZ). No conditions.
-/
namespace Go.Am
abbrev kA:=@Option.some.injEq
abbrev kB:=@Prod.mk.injEq
abbrev kC:=@Bool.and_eq_true
abbrev kD:=@Nat.le_of_ble_eq_true
abbrev kE:=@List.take_of_length_le
abbrev kF:=@Option.map_some
abbrev kG:=@List.length_append
abbrev kH:=@List.mem_cons
abbrev kI:=@List.exists_cons_of_length_pos
abbrev kJ:=@Option.map_eq_some_iff
abbrev kK:=@List.drop_eq_getElem_cons
abbrev kL:=@List.all_eq_true
abbrev kM:=@List.getElem_mem
abbrev kN:=@Bool.or_eq_true
abbrev kO:=@List.length_cons
abbrev kP:=@Nat.le_refl
abbrev kQ:=True.intro
theorem om{p:Prop}(h:p:=by omega):p:=h
theorem si{p:Prop}(h:p:=by simp):p:=h
theorem asm{p:Prop}(h:p:=by assumption):p:=h
inductive D where
 | v (x:Value)
 | str (s:List UInt8)
 | imm (n:Nat) (cs:List D)
 | iptr (cs:List D)
 | sl (id off n cap es:Nat) (ex:Bool)
 | ptr (id off:Nat)
 | agg (cs:List D)
 | tup (cs:List D)
 | fn (f:Fn) (first captured:List D)
 | map (id:Nat)
 | iface (t:TypeId) (d:D)
 | e0
 | any
 | yf (id:Nat)
 | zs (b:Bool)
 deriving Inhabited
def c7:Value->Bool
 | .bool _|.int _ _|.float _ _|.complex _ _ _|.nilFunc|.nilIface=>true
 | .pointer none=>true
 | .slice none 0 0=>true
 | .map none=>true
 | _=>false
inductive Box where
 | cells (cs:List D) (ex:Bool)
 | map (es:List (D×D))
 | loop (st:LoopState) (pend:Option Code) (tm:List D) (ps:List Tmp) (assign body:Code)
 | dfr
 | iter (left:List (D×D)) (cur:Option (D×D))
 deriving Inhabited
structure aB where
 next:Nat
 bs:List (Nat×Box)
 deriving Inhabited
def ac:List (Nat×Box)->Nat->Option Box
 | [],_=>none
 | (i,b)::l,id=>if i=id then some b else ac l id
def setL:List (Nat×Box)->Nat->Box->List (Nat×Box)
 | [],_,_=>[]
 | (i,b)::l,id,x=>if i=id then(i,x)::l else(i,b)::setL l id x
def delL:List (Nat×Box)->Nat->List (Nat×Box)
 | [],_=>[]
 | (i,b)::l,id=>if i=id then delL l id else(i,b)::delL l id
def aB.get (h:aB) (id:Nat):Option Box:=ac h.bs id
def aB.set (h:aB) (id:Nat) (b:Box):aB:=match h with|⟨n,bs⟩=>⟨n,setL bs id b⟩
def aB.del (h:aB) (id:Nat):aB:=match h with|⟨n,bs⟩=>⟨n,delL bs id⟩
def aB.put (h:aB) (id:Nat) (b:Box):aB:=match h with|⟨n,bs⟩=>⟨n,(id,b)::bs⟩
theorem Bu (l:List (Nat×Box)) (i j:Nat) (b:Box):ac (setL l i b) j=if i=j then(ac l i).map (λ_=>b) else ac l j:=by
 induction l with
 | nil=>simp[setL,ac]
 | cons x l ih=>
  obtain⟨k,c⟩:=x;simp only[setL];by_cases hk:k=i
  ·subst hk;simp only[if_true,ac];by_cases hj:k=j
   ·simp[hj]
   ·simp[hj]
  ·simp only[if_neg hk,ac];by_cases hkj:k=j
   ·subst hkj
    have:¬i=k:=λe=>hk e.symm
    simp[this]
   ·simp only[if_neg hkj,ih]
theorem Bv (l:List (Nat×Box)) (i j:Nat):ac (delL l i) j=if i=j then none else ac l j:=by
 induction l with
 | nil=>simp[delL,ac]
 | cons x l ih=>
  obtain⟨k,c⟩:=x;simp only[delL];by_cases hk:k=i
  ·subst hk;simp only[if_true,ih,ac];by_cases hj:k=j<;>simp[hj]
  ·simp only[if_neg hk,ac,ih];by_cases hkj:k=j
   ·subst hkj
    have:¬i=k:=λe=>hk e.symm
    simp[this]
   ·simp[hkj]
theorem CG (l:List (Nat×Box)) (i:Nat) (b:Box):delL (setL l i b) i=delL l i:=by
 induction l with
 | nil=>rfl
 | cons x l ih=>
  obtain⟨k,c⟩:=x;simp only[setL];by_cases hk:k=i
  ·simp[hk,delL]
  ·simp[hk,delL,ih]
theorem aB.get_set (h:aB) (i j:Nat) (b:Box):(h.set i b).get j=if i=j then(h.get i).map (λ_=>b) else h.get j:=Bu _ _ _ _
theorem aB.get_del (h:aB) (i j:Nat):(h.del i).get j=if i=j then none else h.get j:=Bv _ _ _
theorem aB.get_put (h:aB) (i j:Nat) (b:Box):(h.put i b).get j=if i=j then some b else h.get j:=rfl
structure Ctx where
 S:Nat->Prop
 φ:Nat->Option (Nat×Nat)
 w:World
def Holds (w:World) (b o:Nat) (ys:List Value):Prop:=∀ i (h:i<ys.length),w.cell? ⟨b,o+i,none⟩=some ys[i]
mutual
def V (c:Ctx):D->Value->Prop
 | .v x,y=>c7 x=true∧y=x
 | .str s,y=>y=.string ⟨s.toArray⟩
 | .imm n cs,y=>∃ a cap ys,y=.slice a n cap∧n<=cap∧VS c cs ys∧(ys=[]∨∃ b o,a=some ⟨b,o,none⟩∧c.S b∧Holds c.w b o ys)
 | .iptr cs,y=>∃ b o ys,y=.pointer (some ⟨b,o,none⟩)∧VS c cs ys∧(ys=[]∨(c.S b∧Holds c.w b o ys))
 | .sl id off n cap es ex,y=>∃ b o cap' e z,c.φ id=some (b,o)∧y=.slice (some ⟨b,o+off,none⟩) n cap'∧n<=cap∧cap<=cap'∧(ex=true->cap'=cap)∧c.w.shape? b=some (e,z)∧o+off+cap' * es<=z
 | .ptr id off,y=>∃ b o,c.φ id=some (b,o)∧y=.pointer (some ⟨b,o+off,none⟩)
 | .agg cs,y=>∃ ys,y=.agg ys.toArray∧VS c cs ys
 | .tup cs,y=>∃ ys,y=.tuple ys.toArray∧VS c cs ys
 | .fn f first captured,y=>∃ xs ys,y=.func f xs.toArray ys.toArray∧VS c first xs∧VS c captured ys
 | .map id,y=>∃ b,c.φ id=some (b,0)∧y=.map (some b)
 | .iface t d,y=>∃ x,y=.iface t x∧V c d x
 | .e0,y=>∃ a,y=.slice a 0 0
 | .any,_=>True
 | .yf id,y=>∃ b,c.φ id=some (b,0)∧y=.func (.yield b) #[] #[]
 | .zs b,y=>∃ a cap,y=.slice a 0 cap∧a.isSome=b
def VS (c:Ctx):List D->List Value->Prop
 | [],ys=>ys=[]
 | d::ds,ys=>∃ y ys',ys=y::ys'∧V c d y∧VS c ds ys'
end
structure am (c c':Ctx):Prop where
 S:∀ b,c.S b->c'.S b
 φ:∀ id x,c.φ id=some x->c'.φ id=some x
 cells:∀ b,c.S b->c'.w.heap[b]?=c.w.heap[b]?
 shape:∀ b e z,c.w.shape? b=some (e,z)->c'.w.shape? b=some (e,z)
theorem am.refl (c:Ctx):am c c:=⟨λ_ h=>h,λ_ _ h=>h,λ_ _=>rfl,λ_ _ _ h=>h⟩
theorem am.trans {a b c:Ctx}(h:am a b) (k:am b c):am a c:=
 ⟨λx hx=>k.S x (h.S x hx),λi x hx=>k.φ i x (h.φ i x hx),λx hx=>(k.cells x (h.S x hx)).trans (h.cells x hx),λb e z hz=>k.shape b e z (h.shape b e z hz)⟩
theorem cell?_eq {w w':World}{b:Nat}(h:w'.heap[b]?=w.heap[b]?) (o:Nat) (s:Option Nat):w'.cell? ⟨b,o,s⟩=w.cell? ⟨b,o,s⟩:=by
 unfold World.cell?;simp only[h]
theorem Holds.keep {w w':World}{b o:Nat}{ys:List Value}(h:Holds w b o ys) (hb:w'.heap[b]?=w.heap[b]?):Holds w' b o ys:=
 λi hi=>(cell?_eq hb _ _).trans (h i hi)
mutual
theorem V.keep {c c':Ctx}(k:am c c'):∀ (d:D) (y:Value),V c d y->V c' d y
 | .v x,y,h=>h
 | .str s,y,h=>h
 | .imm n cs,y,h=>by
  simp only[V] at *;obtain⟨a,cap,ys,h1,hc,h2,h3⟩:=h;refine⟨a,cap,ys,h1,hc,VS.keep k cs ys h2,h3.imp id ?_⟩;rintro⟨b,o,ha,hs,hh⟩;exact⟨b,o,ha,k.S b hs,hh.keep (k.cells b hs)⟩
 | .iptr cs,y,h=>by
  simp only[V] at *;obtain⟨b,o,ys,h1,h2,h3⟩:=h;exact⟨b,o,ys,h1,VS.keep k cs ys h2,h3.imp id λ⟨hs,hh⟩=>⟨k.S b hs,hh.keep (k.cells b hs)⟩⟩
 | .sl id off n cap es ex,y,h=>by
  simp only[V] at *;obtain⟨b,o,cap',e,z,h1,h2,h3,h4,h5,h6,h7⟩:=h;exact⟨b,o,cap',e,z,k.φ _ _ h1,h2,h3,h4,h5,k.shape _ _ _ h6,h7⟩
 | .ptr id off,y,h=>by
  simp only[V] at *;obtain⟨b,o,h1,h2⟩:=h;exact⟨b,o,k.φ _ _ h1,h2⟩
 | .agg cs,y,h=>by
  simp only[V] at *;obtain⟨ys,h1,h2⟩:=h;exact⟨ys,h1,VS.keep k cs ys h2⟩
 | .tup cs,y,h=>by
  simp only[V] at *;obtain⟨ys,h1,h2⟩:=h;exact⟨ys,h1,VS.keep k cs ys h2⟩
 | .fn f first captured,y,h=>by
  simp only[V] at *;obtain⟨xs,ys,h1,h2,h3⟩:=h;exact⟨xs,ys,h1,VS.keep k _ _ h2,VS.keep k _ _ h3⟩
 | .map id,y,h=>by
  simp only[V] at *;obtain⟨b,h1,h2⟩:=h;exact⟨b,k.φ _ _ h1,h2⟩
 | .iface t d,y,h=>by
  simp only[V] at *;obtain⟨x,h1,h2⟩:=h;exact⟨x,h1,V.keep k d x h2⟩
 | .e0,y,h=>by simpa only[V] using h
 | .any,y,h=>by simp only[V]
 | .yf id,y,h=>by
  simp only[V] at *;obtain⟨b,h1,h2⟩:=h;exact⟨b,k.φ _ _ h1,h2⟩
 | .zs b,y,h=>by simpa only[V] using h
theorem VS.keep {c c':Ctx}(k:am c c'):∀ (ds:List D) (ys:List Value),VS c ds ys->VS c' ds ys
 | [],ys,h=>h
 | d::ds,ys,h=>by
  simp only[VS] at *;obtain⟨y,ys',h1,h2,h3⟩:=h;exact⟨y,ys',h1,V.keep k d y h2,VS.keep k ds ys' h3⟩
end
theorem VS.nil {c:Ctx}:VS c [] []:=by simp[VS]
theorem VS.cons {c:Ctx}{d:D}{ds:List D}{y:Value}{ys:List Value}(h:V c d y) (hs:VS c ds ys):VS c (d::ds) (y::ys):=by
 simp only[VS];exact⟨y,ys,rfl,h,hs⟩
theorem VS.inv {c:Ctx}{d:D}{ds:List D}{ys:List Value}(h:VS c (d::ds) ys):∃ y ys',ys=y::ys'∧V c d y∧VS c ds ys':=by
 simpa only[VS] using h
theorem VS.length {c:Ctx}:∀ {ds:List D}{ys:List Value},VS c ds ys->ys.length=ds.length
 | [],ys,h=>by simp only[VS] at h;subst h;rfl
 | d::ds,ys,h=>by obtain⟨y,ys',rfl,_,h'⟩:=h.inv;simp[VS.length h']
theorem VS.get {c:Ctx}:∀ {ds:List D}{ys:List Value},VS c ds ys->∀ (i:Nat) (d:D),ds[i]?=some d->∃ y,ys[i]?=some y∧V c d y
 | [],ys,h,i,d,hd=>by simp at hd
 | x::ds,ys,h,i,d,hd=>by
  obtain⟨y,ys',rfl,hy,h'⟩:=h.inv;cases i with
  | zero=>simp at hd;subst hd;exact⟨y,rfl,hy⟩
  | succ i=>simp at hd;simpa using VS.get h' i d hd
theorem VS.append {c:Ctx}:∀ {ds es:List D}{ys zs:List Value},VS c ds ys->VS c es zs->VS c (ds++es) (ys++zs)
 | [],es,ys,zs,h,h'=>by simp only[VS] at h;subst h;simpa using h'
 | d::ds,es,ys,zs,h,h'=>by obtain⟨y,ys',rfl,hy,hs⟩:=h.inv;exact VS.cons hy (VS.append hs h')
theorem VS.drop {c:Ctx}:∀ {ds:List D}{ys:List Value}(n:Nat),VS c ds ys->VS c (ds.drop n) (ys.drop n)
 | ds,ys,0,h=>by simpa using h
 | [],ys,n+1,h=>by simp only[VS] at h;subst h;simp[VS]
 | d::ds,ys,n+1,h=>by obtain⟨y,ys',rfl,_,hs⟩:=h.inv;simpa using VS.drop n hs
theorem VS.take {c:Ctx}:∀ {ds:List D}{ys:List Value}(n:Nat),VS c ds ys->VS c (ds.take n) (ys.take n)
 | ds,ys,0,h=>by simp[VS]
 | [],ys,n+1,h=>by simp only[VS] at h;subst h;simp[VS]
 | d::ds,ys,n+1,h=>by obtain⟨y,ys',rfl,hy,hs⟩:=h.inv;simpa using VS.cons hy (VS.take n hs)
theorem VS.set {c:Ctx}:∀ {ds:List D}{ys:List Value}(n:Nat){d:D}{y:Value},VS c ds ys->V c d y->VS c (ds.set n d) (ys.set n y)
 | [],ys,n,d,y,h,_=>by simp only[VS] at h;subst h;simp[VS]
 | x::ds,ys,0,d,y,h,hy=>by obtain⟨z,ys',rfl,_,hs⟩:=h.inv;exact VS.cons hy hs
 | x::ds,ys,n+1,d,y,h,hy=>by obtain⟨z,ys',rfl,hz,hs⟩:=h.inv;exact VS.cons hz (VS.set n hs hy)
theorem VS.replicate {c:Ctx}{d:D}{y:Value}(h:V c d y):∀ n,VS c (List.replicate n d) (List.replicate n y)
 | 0=>VS.nil
 | n+1=>VS.cons h (VS.replicate h n)
mutual
def ofV:Value->Option D
 | .string s=>some (.str s.data.toList)
 | .agg cs=>(wO cs.toList).map .agg
 | .tuple cs=>(wO cs.toList).map .tup
 | .bool b=>some (.v (.bool b))
 | .int k n=>some (.v (.int k n))
 | .float k b=>some (.v (.float k b))
 | .complex k a b=>some (.v (.complex k a b))
 | .nilFunc=>some (.v .nilFunc)
 | .nilIface=>some (.v .nilIface)
 | .pointer none=>some (.v (.pointer none))
 | .slice none 0 0=>some (.v (.slice none 0 0))
 | .map none=>some (.v (.map none))
 | _=>none
def wO:List Value->Option (List D)
 | []=>some []
 | x::xs=>match ofV x,wO xs with|some d,some ds=>some (d::ds)|_,_=>none
end
mutual
theorem bY (c:Ctx):∀ (x:Value) (d:D),ofV x=some d->V c d x
 | .string s,d,h=>by simp only[ofV,kA] at h;subst h;simp[V]
 | .agg cs,d,h=>by
  simp only[ofV,kJ] at h;obtain⟨ds,h1,rfl⟩:=h;simp only[V];exact⟨cs.toList,by simp,d9 c cs.toList ds h1⟩
 | .tuple cs,d,h=>by
  simp only[ofV,kJ] at h;obtain⟨ds,h1,rfl⟩:=h;simp only[V];exact⟨cs.toList,by simp,d9 c cs.toList ds h1⟩
 | .bool b,d,h=>by simp only[ofV,kA] at h;subst h;simp[V,c7]
 | .int k n,d,h=>by simp only[ofV,kA] at h;subst h;simp[V,c7]
 | .float k b,d,h=>by simp only[ofV,kA] at h;subst h;simp[V,c7]
 | .complex k a b,d,h=>by simp only[ofV,kA] at h;subst h;simp[V,c7]
 | .nilFunc,d,h=>by simp only[ofV,kA] at h;subst h;simp[V,c7]
 | .nilIface,d,h=>by simp only[ofV,kA] at h;subst h;simp[V,c7]
 | .pointer none,d,h=>by simp only[ofV,kA] at h;subst h;simp[V,c7]
 | .pointer (some _),d,h=>by simp[ofV] at h
 | .slice none 0 0,d,h=>by simp only[ofV,kA] at h;subst h;simp[V,c7]
 | .slice none 0 (n+1),d,h=>by simp[ofV] at h
 | .slice none (n+1) m,d,h=>by simp[ofV] at h
 | .slice (some _) _ _,d,h=>by simp[ofV] at h
 | .map none,d,h=>by simp only[ofV,kA] at h;subst h;simp[V,c7]
 | .map (some _),d,h=>by simp[ofV] at h
 | .chan _,d,h=>by simp[ofV] at h
 | .func _ _ _,d,h=>by simp[ofV] at h
 | .iface _ _,d,h=>by simp[ofV] at h
theorem d9 (c:Ctx):∀ (xs:List Value) (ds:List D),wO xs=some ds->VS c ds xs
 | [],ds,h=>by simp only[wO,kA] at h;subst h;exact VS.nil
 | x::xs,ds,h=>by
  simp only[wO] at h;split at h
  ·rename_i d ds' h1 h2;simp only[kA] at h;subst h;exact VS.cons (bY c x d h1) (d9 c xs ds' h2)
  ·simp at h
end
def ru:D->Option Value
 | .v x=>some x
 | .str s=>some (.string ⟨s.toArray⟩)
 | _=>none
def f8:List D->Option (List Value)
 | []=>some []
 | d::ds=>match ru d,f8 ds with|some x,some xs=>some (x::xs)|_,_=>none
def toV:D->Option Value
 | .agg cs=>(f8 cs).map λxs=>.agg xs.toArray
 | d=>ru d
theorem qF {c:Ctx}{d:D}{x y:Value}(h:ru d=some x) (hv:V c d y):y=x:=by
 cases d<;>simp only[ru,reduceCtorEq,kA] at h
 ·subst h;simp only[V] at hv;exact hv.2
 ·subst h;simpa only[V] using hv
theorem cQ {c:Ctx}:∀ {ds:List D}{xs ys:List Value},f8 ds=some xs->VS c ds ys->ys=xs
 | [],xs,ys,h,hv=>by simp only[f8,kA] at h;subst h;simpa only[VS] using hv
 | d::ds,xs,ys,h,hv=>by
  simp only[f8] at h;split at h
  ·rename_i x xs' h1 h2;simp only[kA] at h;subst h;obtain⟨y,ys',rfl,hy,hys⟩:=hv.inv;rw[qF h1 hy,cQ h2 hys]
  ·simp at h
theorem iS {c:Ctx}{d:D}{x y:Value}(h:toV d=some x) (hv:V c d y):y=x:=by
 cases d
 case agg cs=>
  simp only[toV,kJ] at h;obtain⟨xs,h1,rfl⟩:=h;simp only[V] at hv;obtain⟨ys,rfl,h2⟩:=hv;rw[cQ h1 h2]
 all_goals(simp only[toV] at h;exact qF h hv)
def ES (c:Ctx):List (D×D)->List MapEntry->Prop
 | [],l=>l=[]
 | (k,x)::es,l=>∃ e l',l=e::l'∧V c k e.key∧V c x e.val∧ES c es l'
def StB (l:List MapEntry) (clock:Nat):Prop:=(∀ x∈l,x.born<clock)∧(l.map (·.born)).Nodup
def jf (l:List MapEntry) (seen:Array Nat):List MapEntry:=l.filter λe=>!seen.contains e.born
def BR (c:Ctx) (b o:Nat):Box->Prop
 | .cells cs ex=>∃ (a:Array Value) (e:TypeId) (pre ys tl:List Value),c.w.heap[b]?=some (.cells a e (0,0)) ∧
   a.toList=pre++(ys++tl)∧pre.length=o∧VS c cs ys∧(ex=true->tl=[])
 | .map es=>o=0∧∃ (a:Array MapEntry) (clock:Nat),c.w.heap[b]?=some (.map a clock)∧ES c es a.toList∧StB a.toList clock
 | .loop st pend tm ps assign body=>o=0∧∃ L:Loop,c.w.heap[b]?=some (.loop L)∧L.state=st∧L.pending=pend∧VS c tm L.tmps.toList∧L.params.toList=ps∧L.assign=assign∧L.body=body
 | .dfr=>o=0∧c.w.heap[b]?=some (.deferred (some []))
 | .iter left cur=>o=0∧∃ (bm:Nat) (a:Array MapEntry) (clock since last:Nat) (seen:Array Nat),c.w.heap[b]?=some (.mapIter (some bm) since seen last)∧c.S bm∧c.w.heap[bm]?=some (.map a clock)∧StB a.toList since∧since<=last∧since<=clock ∧
   ES c left (jf a.toList seen)∧∀ k x,cur=some (k,x)->∃ (e:MapEntry) (seen':Array Nat),seen=seen'.push e.born∧e∈a.toList∧last=clock∧V c k e.key∧V c x e.val
class GT where
 inv:Ctx->Prop
 keep:∀ {c c':Ctx},(∀ b,c.S b->c'.S b)->(∀ b,c.S b->c'.w.heap[b]?=c.w.heap[b]?)->inv c->inv c'
 tab:Nat->Option (List D)
 tabOk:∀ {c:Ctx} {g:Nat} {cs:List D},inv c->tab g=some cs->V c (.iptr cs) (.pointer (some ⟨g,0,none⟩))
theorem GT.kept [GT] {c c':Ctx}(k:am c c') (h:GT.inv c):GT.inv c':=GT.keep k.S k.cells h
structure Rel [GT] (c:Ctx) (h:aB):Prop where
 size:∀ b,c.S b->b<c.w.heap.size
 fresh:∀ id,h.next<=id->c.φ id=none
 live:∀ id box,h.get id=some box->∃ b o,c.φ id=some (b,o)∧¬c.S b∧BR c b o box
 inj:∀ id id' box box' b o o',h.get id=some box->h.get id'=some box'->c.φ id=some (b,o)->c.φ id'=some (b,o')->id=id'
 inv:GT.inv c
def bG (c:Ctx) (h:aB) (b:Nat):Prop:=∃ id box o,h.get id=some box∧c.φ id=some (b,o)
structure Tp (w' w:World):Prop where
 tape:w'.tape=w.tape
 drawn:w.drawn<=w'.drawn
theorem Tp.refl {w:World}:Tp w w:=⟨rfl,kP _⟩
theorem Tp.trans {u v w:World}(x:Tp u v) (y:Tp v w):Tp u w:=⟨x.tape.trans y.tape,Nat.le_trans y.drawn x.drawn⟩
structure aZ (c:Ctx) (h:aB) (c':Ctx) (h':aB):Prop where
 keeps:am c c'
 os:c'.w.os=c.w.os
 tape:Tp c'.w c.w
 output:c'.w.output=c.w.output
 size:c.w.heap.size<=c'.w.heap.size
 next:h.next<=h'.next
 frame:∀ b,b<c.w.heap.size->¬bG c h b->c'.w.heap[b]?=c.w.heap[b]?
 own:∀ b,bG c' h' b->c.w.heap.size<=b∨bG c h b
 stable:∀ b,c'.S b->c.S b∨c.w.heap.size<=b∨bG c h b
theorem aZ.refl (c:Ctx) (h:aB):aZ c h c h:=
 ⟨am.refl c,rfl,Tp.refl,rfl,kP _,kP _,λ_ _ _=>rfl,λ_ h=>.inr h,λ_ h=>.inl h⟩
theorem aZ.trans {a b c:Ctx}{h k l:aB}(x:aZ a h b k) (y:aZ b k c l):aZ a h c l where
 keeps:=x.keeps.trans y.keeps
 os:=y.os.trans x.os
 tape:=y.tape.trans x.tape
 output:=y.output.trans x.output
 size:=Nat.le_trans x.size y.size
 next:=Nat.le_trans x.next y.next
 frame:=λn hn hno=>by
  rw[y.frame n (Nat.lt_of_lt_of_le hn x.size) (λho=>(x.own n ho).elim (λh=>by omega) hno),x.frame n hn hno]
 own:=λn ho=>(y.own n ho).elim (λh=>.inl (Nat.le_trans x.size h)) (x.own n)
 stable:=λn hs=>(y.stable n hs).elim (x.stable n) λh=>h.elim (λh=>.inr (.inl (Nat.le_trans x.size h))) λh=>(x.own n h).elim (λh=>.inr (.inl h)) (λh=>.inr (.inr h))
end Go.Am
/-
 The abstract machine,part 2: what each operation that is no call of a function does to abstract values and boxes ('aop'). Definitions only.
-/
namespace Go.Am
variable [GT]
def av {α:Type}(P:Program):Sem α->Option α
 | .pure a=>some a
 | .program k=>av P (k P)
 | .mark _ k=>av P k
 | _=>none
structure eH where
 u:TypeDesc
 size:Nat
 bytes:Nat
 zero:List D
 held:Bool
abbrev TI:=TypeId->Option eH
def sD:TypeDesc->Bool
 | .struct _|.array _ _=>true
 | _=>false
def aM:D:=.tup []
def eH.zeroD (x:eH):D:=if sD x.u then .agg x.zero else x.zero.headD aM
structure TOk (P:Program) (ti:TI):Prop where
 ok:∀ t x,ti t=some x->P.underlying t=some x.u∧∃ i z,P.info? t=some i∧i.size=x.size∧i.bytes=x.bytes∧i.zero=some z ∧
  wO z.cells.toList=some x.zero∧ofV z=some x.zeroD∧x.zero.length=x.size
 held:∀ t x,ti t=some x->x.held=P.stoodInHeld t
def ev (tmps:List D):Operand->Option D
 | .tmp t=>match tmps.getD t aM with|.any=>none|d=>some d
 | .const v=>ofV v
 | .func f=>some (.fn (.func f) [] [])
 | .global g=>(GT.tab g).map .iptr
def evs (tmps:List D):List Operand->Option (List D)
 | []=>some []
 | x::xs=>match ev tmps x,evs tmps xs with|some d,some ds=>some (d::ds)|_,_=>none
def cU:D->List D
 | .agg cs=>cs
 | d=>[d]
def one:D->Bool
 | .agg _|.tup _|.any=>false
 | _=>true
def gW:List D->Bool
 | []=>true
 | d::ds=>one d&&gW ds
def d5 (u:TypeDesc) (cs:List D):Option D:=if sD u then some (.agg cs) else match cs with|[d]=>some d|_=>none
def splice (cs:List D) (off:Nat) (new:List D):List D:=cs.take off++new++cs.drop (off+new.length)
def rV (s:List UInt8):List D:=s.map λb=>.v (.int .u8 b.toNat)
def cE (h:aB) (es:Nat):D->Option (Nat×List D)
 | .v (.slice none 0 0)=>some (0,[])
 | .e0=>some (0,[])
 | .zs _=>some (0,[])
 | .imm n cs=>if cs.length=n*es then some (n,cs) else none
 | .sl id off n _ es' _=>if es'=es then
   match h.get id with
   | some (.cells cs _)=>if off+n*es<=cs.length then some (n,(cs.drop off).take (n*es)) else none
   | _=>none
  else none
 | .str s=>if es=1 then some (s.length,rV s) else none
 | _=>none
def de:D->Option Nat
 | .v (.int _ n)=>if 0<=n then some n.toNat else none
 | _=>none
def ab:Nat:=1099511627776
def A5:TypeDesc->Bool
 | .slice _|.string=>true
 | _=>false
def cx (z:List D):Nat->List D
 | 0=>[]
 | n+1=>z++cx z n
def rf (h:aB) (id:Nat) (u:TypeDesc) (ei:eH) (s x:D):Option (D×aB):=
 match u,s,x with
 | .int .i64,.v (.slice none 0 0),.v (.int .i64 n)=>if 0<n∧n<=1099511627776∧n.toNat*ei.bytes<=ab∧0<ei.size then some (.sl id 0 n.toNat n.toNat ei.size false,h.put id (.cells (cx ei.zero n.toNat) false)) else none
 | _,_,_=>none
def e9 (ti:TI) (h:aB) (id:Nat) (ts:List TypeId) (s x:D):Option (D×aB):=
 match ts with
 | st::xt::_=>
  match ti st,ti xt with
  | some a,some b=>
   match a.u with
   | .slice e=>
    match ti e with
    | some ei=>
     if A5 b.u=false then rf h id b.u ei s x else
     match cE h ei.size x with
     | some (n,xs)=>
      match s with
      | .v (.slice none 0 0)=>if n=0 then some (s,h) else if n*ei.bytes<=ab∧n<=ab then some (.sl id 0 n n ei.size false,h.put id (.cells xs false)) else none
      | .e0=>if n=0 then some (.e0,h) else if n*ei.bytes<=ab∧n<=ab then some (.sl id 0 n n ei.size false,h.put id (.cells xs false)) else none
      | .sl i off m cap es ex=>
       if es=ei.size∧gW xs=true then
       match h.get i with
       | some (.cells cs bx)=>
        if m+n<=cap then
         if off+(m+n)*es<=cs.length then some (.sl i off (m+n) cap es ex,h.set i (.cells (splice cs (off+m*es) xs) bx)) else none
        else if(m+n)*ei.bytes<=ab∧m+n<=ab∧off+m*es<=cs.length then
         some (.sl id 0 (m+n) (m+n) es false,(if ex then h else h.del i).put id (.cells ((cs.drop off).take (m*es)++xs) false))
        else none
       | _=>none
       else none
      | _=>none
     | none=>none
    | none=>none
   | _=>none
  | _,_=>none
 | _=>none
def xo (ti:TI) (h:aB) (ts:List TypeId) (d x:D):Option (D×aB):=
 match ts with
 | dt::_=>
  match ti dt with
  | some a=>
   match a.u with
   | .slice e=>
    match ti e with
    | some ei=>
     match cE h ei.size x with
     | some (n,xs)=>
      match d with
      | .v (.slice none 0 0)=>some (.v (.int .i64 0),h)
      | .sl i off m _ es _=>
       if es=ei.size∧gW xs=true then
       match h.get i with
       | some (.cells cs bx)=>
        if off+m*es<=cs.length then some (.v (.int .i64 (min n m:Nat)),h.set i (.cells (splice cs off (xs.take (min n m*es))) bx)) else none
       | _=>none
       else none
      | _=>none
     | none=>none
    | none=>none
   | _=>none
  | none=>none
 | _=>none
def fw (ti:TI) (h:aB) (ts:List TypeId) (x:D):Option D:=
 match ts with
 | t::_=>
  match ti t with
  | some a=>
   match a.u,x with
   | .string,.str s=>some (.v (.int .i64 s.length))
   | .slice _,.v (.slice none 0 0)=>some (.v (.int .i64 0))
   | .slice _,.e0=>some (.v (.int .i64 0))
   | .slice _,.zs _=>some (.v (.int .i64 0))
   | .slice _,.imm n _=>some (.v (.int .i64 n))
   | .slice _,.sl _ _ n _ _ _=>some (.v (.int .i64 n))
   | .array n _,_=>some (.v (.int .i64 n))
   | .map _ _,.v (.map none)=>some (.v (.int .i64 0))
   | .map _ _,.map id=>match h.get id with|some (.map es)=>some (.v (.int .i64 es.length))|_=>none
   | _,_=>none
  | none=>none
 | []=>none
def cg (h:aB) (i:Nat):Bool:=
 match h.get i with
 | some (.cells _ _)=>true
 | _=>false
def c5:D->D->Option Bool
 | .str a,.str b=>some (a == b)
 | .v (.int k a),.v (.int k' b)=>if k=k' then some (a == b) else none
 | _,_=>none
def iX:List D->List D->Option Bool
 | [a,b],[a',b']=>match c5 a a',c5 b b' with|some p,some q=>some (p&&q)|_,_=>none
 | _,_=>none
def b7:List D->List D->Option Bool
 | [],[]=>some true
 | a::as,b::bs=>match c5 a b,b7 as bs with|some p,some q=>some (p&&q)|_,_=>none
 | _,_=>none
def f9 (as bs:List D):Option Bool:=
 match as with
 | _::_::_::_=>b7 as bs
 | _=>iX as bs
def az (h:aB):D->D->Option Bool
 | .str a,.str b=>some (a == b)
 | .v (.int k a),.v (.int k' b)=>if k=k' then some (a == b) else none
 | .ptr i o,.ptr i' o'=>if cg h i&&cg h i' then some (i == i' && o == o') else none
 | .agg as,.agg bs=>f9 as bs
 | _,_=>none
def cN:TypeDesc->D->Bool
 | .string,.str _=>true
 | .int _,.v (.int _ _)=>true
 | _,_=>false
def nH (ti:TI):List Field->List D->Bool
 | [f,g],[a,b]=>f.name != "_" && g.name != "_" && Nat.beq f.offset 0&&Nat.beq g.offset 1&&(match ti f.type,ti g.type with|some x,some y=>cN x.u a&&cN y.u b|_,_=>false)
 | _,_=>false
def oH (ti:TI) (x:eH) (k:D):Bool:=
 match x.u,k with
 | .string,.str _=>true
 | .int _,.v (.int _ _)=>true
 | .pointer e,.ptr _ _=>match ti e with|some x=>decide (x.size≠0)|none=>false
 | .struct fs,.agg as=>!x.held&&nH ti fs.toList as
 | .array n e,.agg as=>match ti e with|some y=>Nat.beq y.size 1&&Nat.beq as.length n&&as.all (cN y.u)|none=>false
 | _,_=>false
def bo (h:aB) (k:D):List (D×D)->Nat->Option (Option (Nat×D))
 | [],_=>some none
 | (k',x)::es,i=>match az h k k' with|some true=>some (some (i,x))|some false=>bo h k es (i+1)|none=>none
def nC (h:aB):D->Option (List (D×D))
 | .v (.map none)=>some []
 | .map id=>match h.get id with|some (.map es)=>some es|_=>none
 | _=>none
def fZ (ti:TI) (h:aB) (t:TypeId) (m k:D) (ok:Bool):Option D:=
 match ti t with
 | some a=>
  match a.u with
  | .map kt e=>
   match ti kt,ti e,nC h m with
   | some ka,some ea,some es=>
    if oH ti ka k then
     match bo h k es 0 with
     | some (some (_,x))=>some (if ok then .tup [x,.v (.bool true)] else x)
     | some none=>some (if ok then .tup [ea.zeroD,.v (.bool false)] else ea.zeroD)
     | none=>none
    else none
   | _,_,_=>none
  | _=>none
 | none=>none
def fY (ti:TI) (h:aB) (t:TypeId) (m k x:D):Option aB:=
 match ti t with
 | some a=>
  match a.u with
  | .map kt _=>
   match ti kt,m with
   | some ka,.map id=>
    match h.get id with
    | some (.map es)=>
     if oH ti ka k then
      match bo h k es 0 with
      | some (some (i,_))=>some (h.set id (.map (es.set i (k,x))))
      | some none=>some (h.set id (.map (es++[(k,x)])))
      | none=>none
     else none
    | _=>none
   | _,_=>none
  | _=>none
 | none=>none
def lj (aw:Nat->Option (Nat×Nat)) (cs:List D):List (Nat×D)->Option (List D)
 | []=>some cs
 | (i,d)::rest=>
  match aw i with
  | none=>none
  | some (off,size)=>if(cU d).length=size∧off+size<=cs.length then lj aw (splice cs off (cU d)) rest else none
def gU (tmps:List D):List (Nat×Operand)->Option (List (Nat×D))
 | []=>some []
 | (i,x)::l=>match ev tmps x,gU tmps l with|some d,some ds=>some ((i,d)::ds)|_,_=>none
def nP (ti:TI):List Field->Option (List (Nat×Nat))
 | []=>some []
 | f::fs=>match ti f.type,nP ti fs with|some x,some l=>some ((f.offset,x.size)::l)|_,_=>none
def rh (ti:TI) (t:TypeId) (ps:List (Nat×D)):Option D:=
 match ti t with
 | some a=>
  match a.u with
  | .struct fs=>match nP ti fs.toList with|some pl=>(lj (pl[·]?) a.zero ps).map .agg|none=>none
  | .array _ e=>match ti e with|some ei=>(lj (λi=>some (i*ei.size,ei.size)) a.zero ps).map .agg|none=>none
  | _=>none
 | none=>none
def eS (ti:TI) (h:aB) (id:Nat) (t:TypeId) (len:Nat) (ps:List (Nat×D)):Option (D×aB):=
 match ti t with
 | some a=>
  match a.u with
  | .slice e=>
   match ti e with
   | some ei=>if len*ei.size<=16777216∧0<ei.size then
     match lj (λi=>some (i*ei.size,ei.size)) (cx ei.zero len) ps with
     | some cs=>some (.sl id 0 len len ei.size true,h.put id (.cells cs true))
     | none=>none
    else none
   | none=>none
  | _=>none
 | none=>none
def dU (ti:TI) (h:aB) (id:Nat) (t:TypeId) (l c:D):Option (D×aB):=
 match ti t with
 | some a=>
  match a.u with
  | .slice e=>
   match ti e,de l,de c with
   | some ei,some n,some m=>if n<=m∧m<=ab∧m*ei.bytes<=ab∧0<ei.size then some (.sl id 0 n m ei.size true,h.put id (.cells (cx ei.zero m) true)) else none
   | _,_,_=>none
  | _=>none
 | none=>none
def ca (d:Option D) (dflt:Nat):Option Nat:=
 match d with
 | none=>some dflt
 | some d=>de d
def dg (ti:TI) (t:TypeId) (x:D) (lo hi mx:Option D):Option D:=
 match ti t with
 | some a=>
  match a.u,x with
  | .string,.str s=>
   match mx,ca lo 0,ca hi s.length with
   | none,some l,some h=>if l<=h∧h<=s.length then some (.str ((s.drop l).take (h-l))) else none
   | _,_,_=>none
  | .slice e,x=>
   match ti e with
   | some ei=>
    match x,mx with
    | .v (.slice none 0 0),none=>match ca lo 0,ca hi 0 with|some 0,some 0=>some x|_,_=>none
    | .v (.slice none 0 0),some m=>match ca lo 0,hi.bind de,de m with|some 0,some 0,some 0=>some x|_,_,_=>none
    | .e0,none=>match ca lo 0,ca hi 0 with|some 0,some 0=>some x|_,_=>none
    | .imm n cs,none=>
     match ca lo 0,ca hi n with
     | some l,some h=>if l<=h∧h<=n∧cs.length=n*ei.size then some (.imm (h-l) ((cs.drop (l*ei.size)).take ((h-l)*ei.size))) else none
     | _,_=>none
    | .imm _ _,some m=>match ca lo 0,hi.bind de,de m with|some 0,some 0,some 0=>some .e0|_,_,_=>none
    | .sl i off n cap es ex,none=>
     match ca lo 0,ca hi n with
     | some l,some h=>if es=ei.size∧l<=h∧h<=cap then(if l=cap then some (.imm 0 []) else some (.sl i (off+l*es) (h-l) (cap-l) es ex)) else none
     | _,_=>none
    | .sl i off _ cap es _,some m=>
     match ca lo 0,hi.bind de,de m with
     | some l,some h,some m=>if es=ei.size∧l<=h∧h<=m∧m<=cap then(if l=m then some .e0 else some (.sl i (off+l*es) (h-l) (m-l) es true)) else none
     | _,_,_=>none
    | _,_=>none
   | none=>none
  | _,_=>none
 | none=>none
def iH (ti:TI) (h:aB) (t:TypeId) (a:D):Option D:=
 match ti t with
 | some x=>
  match a with
  | .ptr id off=>
   match h.get id with
   | some (.cells cs _)=>if off+x.size<=cs.length then d5 x.u ((cs.drop off).take x.size) else none
   | _=>none
  | .iptr cs=>if x.size<=cs.length then d5 x.u (cs.take x.size) else none
  | _=>none
 | none=>none
def iO (ti:TI) (h:aB) (t:TypeId) (a d:D):Option aB:=
 match ti t with
 | some x=>
  match a with
  | .ptr id off=>
   match h.get id with
   | some (.cells cs ex)=>if(cU d).length=x.size∧off+x.size<=cs.length∧gW (cU d)=true then some (h.set id (.cells (splice cs off (cU d)) ex)) else none
   | _=>none
  | _=>none
 | none=>none
def fQ (ti:TI) (t:TypeId) (x:D) (f:Nat):Option D:=
 match ti t with
 | some a=>
  match a.u with
  | .struct fs=>
   match fs.toList[f]? with
   | some fl=>
    match ti fl.type with
    | some fi=>if fi.size=0 then none else
     match x with
     | .ptr id off=>some (.ptr id (off+fl.offset))
     | .iptr cs=>some (.iptr (cs.drop fl.offset))
     | _=>none
    | none=>none
   | none=>none
  | _=>none
 | none=>none
def oV (ti:TI) (t:TypeId) (x:D) (f:Nat):Option D:=
 match ti t with
 | some a=>
  match a.u,x with
  | .struct fs,.agg cs=>
   match fs.toList[f]? with
   | some fl=>
    match ti fl.type with
    | some fi=>if fl.offset+fi.size<=cs.length then d5 fi.u ((cs.drop fl.offset).take fi.size) else none
    | none=>none
   | none=>none
  | _,_=>none
 | none=>none
def cV (ti:TI) (t:TypeId) (x i:D):Option D:=
 match ti t,de i with
 | some a,some k=>
  match a.u with
  | .slice e=>
   match ti e with
   | some ei=>
    match x with
    | .imm n cs=>if k<n∧cs.length=n*ei.size∧0<ei.size then some (.iptr ((cs.drop (k*ei.size)).take ei.size)) else none
    | .sl id off n _ es _=>if k<n∧es=ei.size then some (.ptr id (off+k*es)) else none
    | _=>none
   | none=>none
  | .array n e=>
   match ti e with
   | some ei=>
    match x with
    | .ptr id off=>if k<n then some (.ptr id (off+k*ei.size)) else none
    | .iptr cs=>if k<n then some (.iptr (cs.drop (k*ei.size))) else none
    | _=>none
   | none=>none
  | _=>none
 | _,_=>none
def ky (ti:TI) (t:TypeId) (x i:D):Option D:=
 match ti t,de i with
 | some a,some k=>
  match a.u,x with
  | .string,.str s=>match s[k]? with|some b=>some (.v (.int .u8 b.toNat))|none=>none
  | .array n e,.agg cs=>
   match ti e with
   | some ei=>if k<n∧k*ei.size+ei.size<=cs.length then d5 ei.u ((cs.drop (k*ei.size)).take ei.size) else none
   | none=>none
  | _,_=>none
 | _,_=>none
def dB:List D->Option (List UInt8)
 | []=>some []
 | .v (.int .u8 n)::ds=>match dB ds with|some l=>some (UInt8.ofNat n.toNat::l)|none=>none
 | _::_=>none
def gN (h:aB) (u:TypeDesc) (x:D):Option (D×aB):=
 match u,x with
 | .int .u8,.v (.slice none 0 0)=>some (.str [],h)
 | .int .u8,.e0=>some (.str [],h)
 | .int .u8,.imm n cs=>if cs.length=n then(dB cs).map λl=>(.str l,h) else none
 | .int .u8,.sl id off n _ es _=>if es=1 then
   match h.get id with
   | some (.cells cs _)=>if off+n<=cs.length then(dB ((cs.drop off).take n)).map λl=>(.str l,h) else none
   | _=>none
  else none
 | _,_=>none
def bt (P:Program) (ti:TI) (h:aB) (src dst:TypeId) (x:D):Option (D×aB):=
 match ti src,ti dst with
 | some a,some b=>
  match a.u,b.u,x with
  | _,.int _,.v (.int _ _)=>match(toV x).bind (λv=>av P (convert src dst v)) with|some r=>(ofV r).map (·,h)|none=>none
  | .string,.string,.str _=>some (x,h)
  | .slice e,.string,x=>match ti e with|some ei=>gN h ei.u x|none=>none
  | _,_,_=>none
 | _,_=>none
def fv (op:BinOp) (a b:List UInt8):Option D:=
 match op with
 | .add=>if a.length+b.length<=ab then some (.str (a++b)) else none
 | .eql=>some (.v (.bool (a == b)))
 | .neq=>some (.v (.bool (!(a == b))))
 | .lss=>some (.v (.bool (Op.bytesLess a b)))
 | .leq=>some (.v (.bool (Op.bytesLess a b || a == b)))
 | .gtr=>some (.v (.bool (!(Op.bytesLess a b || a == b))))
 | .geq=>some (.v (.bool (!Op.bytesLess a b)))
 | _=>none
def Df:D->Value->Bool
 | .sl _ _ _ _ _ _,.slice none 0 0=>true
 | .imm _ (_::_),.slice none 0 0=>true
 | .ptr _ _,.pointer none=>true
 | .iptr _,.pointer none=>true
 | .map _,.map none=>true
 | .fn _ _ _,.nilFunc=>true
 | .iface _ _,.nilIface=>true
 | _,_=>false
def oq:Value->TypeDesc->Bool
 | .slice none 0 0,.slice _=>true
 | .pointer none,.pointer _=>true
 | .map none,.map _ _=>true
 | .nilFunc,.func _ _ _=>true
 | .nilIface,.interface _=>true
 | _,_=>false
def G9 (P:Program) (op:BinOp) (t:TypeId) (x:D) (y:Value):Option Bool:=
 match x,y with
 | .zs b,.slice none 0 0=>match P.underlying t with|some (.slice _)=>(match op with|.eql=>some (!b)|.neq=>some b|_=>none)|_=>none
 | _,_=>none
def uI (P:Program) (op:BinOp) (t:TypeId) (x y:D):Option Bool:=
 match y with
 | .v vy=>if Df x vy then(match P.underlying t with|some u=>if oq vy u then(match op with|.eql=>some false|.neq=>some true|_=>none) else none|none=>none) else G9 P op t x vy
 | _=>none
def ba (P:Program) (op:BinOp) (t:TypeId) (ox oy:Operand) (x y:D):Option D:=
 match x,y with
 | .str a,.str b=>fv op a b
 | _,_=>
  match uI P op t x y with
  | some b=>some (.v (.bool b))
  | none=>
   match toV x,toV y with
   | some a,some b=>match av P (do eqGuard op t ox oy a b;binOp op t a b) with|some r=>ofV r|none=>none
   | _,_=>none
def fP:D->Option D
 | .ptr i o=>some (.ptr i o)
 | .iptr cs=>some (.iptr cs)
 | .fn (.func f) a b=>some (.fn (.func f) a b)
 | _=>none
def ao (P:Program) (ti:TI) (h:aB) (id:Nat) (b:Builtin) (ts:List TypeId) (type:TypeId) (args:List D):Option (D×aB):=
 match b,args with
 | .append,[s,x]=>e9 ti h id ts s x
 | .copy,[d,x]=>xo ti h ts d x
 | .len,[x]=>(fw ti h ts x).map (·,h)
 | .cap,args=>match f8 args with|some vs=>(match av P (Builtin.cap_ ts.toArray type vs.toArray) with|some r=>(ofV r).map (·,h)|none=>none)|none=>none
 | .min,args=>match f8 args with|some vs=>(match av P (Builtin.min_ ts.toArray type vs.toArray) with|some r=>(ofV r).map (·,h)|none=>none)|none=>none
 | .max,args=>match f8 args with|some vs=>(match av P (Builtin.max_ ts.toArray type vs.toArray) with|some r=>(ofV r).map (·,h)|none=>none)|none=>none
 | _,_=>none
def re (ti:TI) (t:TypeId) (d:D):Option D:=
 match ti t with
 | some a=>(match a.u with|.interface _=>none|_=>some (.iface t d))
 | none=>none
def u4 (ti:TI) (h:aB) (id:Nat) (t:TypeId) (x:D):Option (D×aB):=
 match ti t,x with
 | some a,.map m=>
  match a.u,h.get m with
  | .map _ _,some (.map es)=>some (.ptr id 0,(h.del m).put id (.iter es none))
  | _,_=>none
 | _,_=>none
def rg (h:aB) (x:D):Option D:=
 match x with
 | .ptr i 0=>match h.get i with|some (.iter _ (some p))=>some (.tup [p.1,p.2])|_=>none
 | _=>none
def rc (h:aB) (x:D):Option D:=
 match x with
 | .ptr i 0=>match h.get i with|some (.iter [] _)=>some (.tup [.v (.bool false)])|_=>none
 | _=>none
def aop (P:Program) (ti:TI) (tmps:List D) (h:aB) (id:Nat) (o:Oper):Option (D×aB):=
 match o.op with
 | .move x|.assign x=>(ev tmps x).map (·,h)
 | .pick c a b=>
  match ev tmps c with
  | some (.v (.bool t))=>(if t then ev tmps a else ev tmps b).map (·,h)
  | _=>none
 | .alloc t=>(ti t).map λx=>(.ptr id 0,h.put id (.cells x.zero true))
 | .box _ x=>(ev tmps x).map λd=>(.ptr id 0,h.put id (.cells (cU d) true))
 | .build t ps=>match gU tmps ps.toList with|some l=>(rh ti t l).map (·,h)|none=>none
 | .buildSlice t n ps=>match gU tmps ps.toList with|some l=>eS ti h id t n l|none=>none
 | .load t a=>match ev tmps a with|some d=>(iH ti h t d).map (·,h)|none=>none
 | .store t a x=>match ev tmps a,ev tmps x with|some d,some e=>(iO ti h t d e).map (aM,·)|_,_=>none
 | .nilCheck x=>match ev tmps x with|some d=>(fP d).map (·,h)|none=>none
 | .binOp op t x y _=>match ev tmps x,ev tmps y with|some a,some b=>(ba P op t x y a b).map (·,h)|_,_=>none
 | .unOp op _ x=>
  match(ev tmps x).bind toV with
  | some a=>(match av P (Op.unary op a) with|some r=>(ofV r).map (·,h)|none=>none)
  | none=>none
 | .convert src dst x=>match ev tmps x with|some d=>bt P ti h src dst d|none=>none
 | .makeFunc fn first captured=>match evs tmps first.toList,evs tmps captured.toList with|some a,some b=>some (.fn fn a b,h)|_,_=>none
 | .makeMap t r=>
  match r with
  | none=>some (.map id,h.put id (.map []))
  | some x=>match ti t,ev tmps x with
   | some a,some (.v (.int _ _))=>(match a.u with|.map _ _=>some (.map id,h.put id (.map []))|_=>none)
   | _,_=>none
 | .makeSlice t l c=>match ev tmps l,ev tmps c with|some a,some b=>dU ti h id t a b|_,_=>none
 | .slice t x lo hi mx=>
  match ev tmps x,(match lo with|some y=>(ev tmps y).map some|none=>some none),(match hi with|some y=>(ev tmps y).map some|none=>some none),(match mx with|some y=>(ev tmps y).map some|none=>some none) with
  | some d,some l,some h',some m=>(dg ti t d l h' m).map (·,h)
  | _,_,_,_=>none
 | .fieldAddr t x f=>match ev tmps x with|some d=>(fQ ti t d f).map (·,h)|none=>none
 | .field t x f=>match ev tmps x with|some d=>(oV ti t d f).map (·,h)|none=>none
 | .indexAddr t x i=>match ev tmps x,ev tmps i with|some a,some b=>(cV ti t a b).map (·,h)|_,_=>none
 | .index t x i=>match ev tmps x,ev tmps i with|some a,some b=>(ky ti t a b).map (·,h)|_,_=>none
 | .lookup t x i ok=>match ev tmps x,ev tmps i with|some a,some b=>(fZ ti h t a b ok).map (·,h)|_,_=>none
 | .mapUpdate t m k x|.insert t m k x=>match ev tmps m,ev tmps k,ev tmps x with|some a,some b,some d=>(fY ti h t a b d).map (aM,·)|_,_,_=>none
 | .extract t i=>match ev tmps t with|some (.tup cs)=>(cs[i]?).map (·,h)|_=>none
 | .call c=>
  match c.callee with
  | .builtin b=>match evs tmps c.args.toList with|some ds=>ao P ti h id b c.argTypes.toList o.type ds|none=>none
  | _=>none
 | .makeInterface t x=>match ev tmps x with|some d=>(re ti t d).map (·,h)|none=>none
 | .range t x=>match ev tmps x with|some d=>u4 ti h id t d|none=>none
 | .entry x=>match ev tmps x with|some d=>(rg h d).map (·,h)|none=>none
 | .next x false=>match ev tmps x with|some d=>(rc h d).map (·,h)|none=>none
 | _=>none
end Go.Am
/-
 The abstract machine,part 3: memory: a new box,a box turned,a box given up,a draw: the world still fits.
-/
namespace Go.Am
variable [GT]
theorem ES.keep {c c':Ctx}(k:am c c'):∀ (es:List (D×D)) (l:List MapEntry),ES c es l->ES c' es l
 | [],l,h=>h
 | (x,y)::es,l,h=>by
  obtain⟨e,l',h1,h2,h3,h4⟩:=h;exact⟨e,l',h1,V.keep k _ _ h2,V.keep k _ _ h3,ES.keep k es l' h4⟩
theorem BR.keep {c c':Ctx}(k:am c c'){b o:Nat}(hb:c'.w.heap[b]?=c.w.heap[b]?):∀ {box:Box},BR c b o box->BR c' b o box
 | .cells cs ex,h=>by
  obtain⟨a,e,pre,ys,tl,h1,h3,h4,h5,h6⟩:=h;exact⟨a,e,pre,ys,tl,hb.trans h1,h3,h4,VS.keep k _ _ h5,h6⟩
 | .map es,h=>by
  obtain⟨h0,a,cl,h1,h2,h3⟩:=h;exact⟨h0,a,cl,hb.trans h1,ES.keep k _ _ h2,h3⟩
 | .loop ..,h=>by
  obtain⟨h0,L,h1,h2,h3,h4,h5⟩:=h;exact⟨h0,L,hb.trans h1,h2,h3,VS.keep k _ _ h4,h5⟩
 | .dfr,h=>⟨h.1,hb.trans h.2⟩
 | .iter left cur,h=>by
  obtain⟨h0,bm,a,cl,since,last,seen,h1,h2,h3,h4,h5,h6,h7,h8⟩:=h;refine⟨h0,bm,a,cl,since,last,seen,hb.trans h1,k.S bm h2,(k.cells bm h2).trans h3,h4,h5,h6,ES.keep k _ _ h7,λx y hc=>?_⟩;obtain⟨e,s',e1,e2,e3,e4,e5⟩:=h8 x y hc;exact⟨e,s',e1,e2,e3,V.keep k _ _ e4,V.keep k _ _ e5⟩
theorem BR.lt {c:Ctx}{b o:Nat}:∀ {box:Box},BR c b o box->b<c.w.heap.size
 | .cells cs ex,h=>by
  obtain⟨a,e,pre,ys,tl,h1,_⟩:=h;exact(Array.getElem?_eq_some_iff.1 h1).1
 | .map es,h=>by
  obtain⟨_,a,cl,h1,_⟩:=h;exact(Array.getElem?_eq_some_iff.1 h1).1
 | .loop ..,h=>by
  obtain⟨_,L,h1,_⟩:=h;exact(Array.getElem?_eq_some_iff.1 h1).1
 | .dfr,h=>(Array.getElem?_eq_some_iff.1 h.2).1
 | .iter ..,h=>by
  obtain⟨_,bm,a,cl,since,last,seen,h1,_⟩:=h;exact(Array.getElem?_eq_some_iff.1 h1).1
def Ctx.push (c:Ctx) (id:Nat) (o:Obj):Ctx:=
 { S:=c.S,φ:=λj=>if j=id then some (c.w.heap.size,0) else c.φ j,w:={ c.w with heap:=c.w.heap.push o } }
theorem Ctx.push_keeps {c:Ctx}{h:aB}(R:Rel c h){id:Nat}(hf:c.φ id=none) (o:Obj):am c (c.push id o) where
 S:=λ_ h=>h
 φ:=λj x hx=>by
  simp only[Ctx.push];by_cases hj:j=id
  ·subst hj;rw[hf] at hx;cases hx
  ·simp[hj,hx]
 cells:=λb hb=>by
  have:=R.size b hb
  simp only[Ctx.push,Array.getElem?_push];rw[if_neg om]
 shape:=λb e z hz=>by
  have hlt:b<c.w.heap.size:=by
   unfold World.shape? at hz;split at hz
   ·rename_i hb;exact(Array.getElem?_eq_some_iff.1 hb).1
   ·cases hz
  unfold World.shape? at *;simp only[Ctx.push,Array.getElem?_push];rw[if_neg om];exact hz
theorem Rel.push {c:Ctx}{h:aB}(R:Rel c h){id:Nat}(hf:c.φ id=none) (hn:id<h.next){o:Obj}{box:Box}(hb:BR (c.push id o) c.w.heap.size 0 box) :
  Rel (c.push id o) (h.put id box)∧aZ c h (c.push id o) (h.put id box):=by
 have K:=Ctx.push_keeps R hf o
 have hnone:h.get id=none:=by
  cases hg:h.get id with
  | none=>rfl
  | some bx=>obtain⟨b,oo,h1,_⟩:=R.live id bx hg;rw[hf] at h1;cases h1
 have hgt:∀ j,(h.put id box).get j=if id=j then some box else h.get j:=λj=>aB.get_put h id j box
 have hφ:∀ j,j≠id->(c.push id o).φ j=c.φ j:=λj hj=>by simp[Ctx.push,hj]
 have hφ0:(c.push id o).φ id=some (c.w.heap.size,0):=by simp[Ctx.push]
 have hlive:∀ j bx,j≠id->(h.put id box).get j=some bx->h.get j=some bx:=λj bx hj hg=>by
  rw[hgt,if_neg (λe=>hj e.symm)] at hg;exact hg
 have hold:∀ b,b<c.w.heap.size->(c.push id o).w.heap[b]?=c.w.heap[b]?:=λb hb=>by
  simp only[Ctx.push,Array.getElem?_push];rw[if_neg om]
 constructor
 ·refine⟨λb hb=>?_,λj hj=>?_,λj bx hg=>?_,λj j' bx bx' b oo oo' hg hg' h1 h1'=>?_,GT.kept K R.inv⟩
  ·have:=R.size b hb;simp only[Ctx.push,Array.size_push];omega
  ·have hne:j≠id:=by simp only[aB.put] at hj;omega
   rw[hφ j hne];exact R.fresh j hj
  ·by_cases hj:j=id
   ·subst hj;rw[hgt,if_pos rfl,kA] at hg;subst hg;refine⟨_,_,hφ0,λhs=>?_,hb⟩;have:=R.size _ hs
    omega
   ·obtain⟨b,oo,h1,h2,h3⟩:=R.live j bx (hlive j bx hj hg);exact⟨b,oo,by rw[hφ j hj];exact h1,h2,h3.keep K (hold b h3.lt)⟩
  ·by_cases hj:j=id<;>by_cases hj':j'=id
   ·rw[hj,hj']
   ·subst hj;obtain⟨b',o',h2,_,h3⟩:=R.live j' bx' (hlive j' bx' hj' hg');rw[hφ j' hj',h2] at h1';rw[hφ0] at h1;have:=h3.lt
    injection h1 with h1;injection h1' with h1'
    injection h1 with h1 _;injection h1' with h1' _
    omega
   ·subst hj';obtain⟨b',o',h2,_,h3⟩:=R.live j bx (hlive j bx hj hg);rw[hφ j hj,h2] at h1;rw[hφ0] at h1';have:=h3.lt
    injection h1 with h1;injection h1' with h1'
    injection h1 with h1 _;injection h1' with h1' _
    omega
   ·rw[hφ j hj] at h1;rw[hφ j' hj'] at h1';exact R.inj j j' bx bx' b oo oo' (hlive j bx hj hg) (hlive j' bx' hj' hg') h1 h1'
 ·refine⟨K,rfl,⟨rfl,kP _⟩,rfl,by simp[Ctx.push],kP _,λb hb _=>hold b hb,λb ho=>?_,λb hs=>.inl hs⟩;obtain⟨j,bx,oo,hg,h1⟩:=ho;by_cases hj:j=id
  ·subst hj;rw[hφ0] at h1;injection h1 with h1;injection h1 with h1 _;exact .inl om
  ·exact .inr ⟨j,bx,oo,hlive j bx hj hg,by rw[<-hφ j hj];exact h1⟩
theorem Rel.turn {c:Ctx}{h:aB}(R:Rel c h){id b o:Nat}{box box':Box}(hg:h.get id=some box) (hφ:c.φ id=some (b,o)){w':World}
  (hos:w'.os=c.w.os) (htape:Tp w' c.w) (hout:w'.output=c.w.output) (hsz:w'.heap.size=c.w.heap.size)
  (hother:∀ k,k≠b->w'.heap[k]?=c.w.heap[k]?) (hshape:∀ e z,c.w.shape? b=some (e,z)->w'.shape? b=some (e,z))
  (hb:am c { c with w:=w' }->BR { c with w:=w' } b o box') :
  Rel { c with w:=w' } (h.set id box')∧aZ c h { c with w:=w' } (h.set id box'):=by
 obtain⟨b0,o0,h1,hS,hbr⟩:=R.live id box hg;rw[hφ] at h1;injection h1 with h1;injection h1 with hb0 ho0;subst hb0;subst ho0
 have K:am c { c with w:=w' }:=⟨λ_ h=>h,λ_ _ h=>h,λk hk=>hother k (λe=>hS (e▸hk)),λk e z hz=>by
  by_cases hk:k=b
  ·subst hk;exact hshape e z hz
  ·unfold World.shape? at *;rw[show({ c with w:=w' }:Ctx).w.heap[k]?=c.w.heap[k]? from hother k hk];exact hz⟩
 have hgt:∀ j,(h.set id box').get j=if id=j then some box' else h.get j:=λj=>by rw[aB.get_set,hg];rfl
 have hlive:∀ j bx,j≠id->(h.set id box').get j=some bx->h.get j=some bx:=λj bx hj hg=>by
  rw[hgt,if_neg (λe=>hj e.symm)] at hg;exact hg
 have hany:∀ j bx,(h.set id box').get j=some bx->∃ bx0,h.get j=some bx0:=λj bx hgj=>by
  by_cases hj:j=id
  ·subst hj;exact⟨_,hg⟩
  ·exact⟨_,hlive j bx hj hgj⟩
 constructor
 ·refine⟨λk hk=>?_,R.fresh,λj bx hgj=>?_,λj j' bx bx' k oo oo' hgj hgj' h1 h1'=>?_,GT.kept K R.inv⟩
  ·have:=R.size k hk;show k<w'.heap.size;omega
  ·by_cases hj:j=id
   ·subst hj;rw[hgt,if_pos rfl,kA] at hgj;subst hgj;exact⟨b,o,hφ,hS,hb K⟩
   ·obtain⟨k,oo,h1,h2,h3⟩:=R.live j bx (hlive j bx hj hgj);refine⟨k,oo,h1,h2,h3.keep K (hother k λe=>?_)⟩;subst e;exact hj (R.inj j id bx box k oo o (hlive j bx hj hgj) hg h1 hφ)
  ·obtain⟨x,hx⟩:=hany j bx hgj;obtain⟨x',hx'⟩:=hany j' bx' hgj';exact R.inj j j' x x' k oo oo' hx hx' h1 h1'
 ·refine⟨K,hos,htape,hout,Nat.le_of_eq hsz.symm,kP _,λk _ hno=>hother k λe=>hno ⟨id,box,o,hg,e▸hφ⟩,λk ho=>?_,λk hs=>.inl hs⟩;obtain⟨j,bx,oo,hgj,h1⟩:=ho;obtain⟨x,hx⟩:=hany j bx hgj;exact .inr ⟨j,x,oo,hx,h1⟩
theorem Rel.del {c:Ctx}{h:aB}(R:Rel c h) (id:Nat):Rel c (h.del id)∧aZ c h c (h.del id):=by
 have hlive:∀ j bx,(h.del id).get j=some bx->h.get j=some bx:=λj bx hg=>by
  rw[aB.get_del] at hg;split at hg
  ·cases hg
  ·exact hg
 exact⟨⟨R.size,R.fresh,λj bx hg=>R.live j bx (hlive j bx hg),λj j' bx bx' b o o' hg hg'=>R.inj j j' bx bx' b o o' (hlive _ _ hg) (hlive _ _ hg'),R.inv⟩,
  ⟨am.refl c,rfl,Tp.refl,rfl,kP _,kP _,λ_ _ _=>rfl,λb ⟨j,bx,o,hg,h1⟩=>.inr ⟨j,bx,o,hlive _ _ hg,h1⟩,λ_ h=>.inl h⟩⟩
def Ctx.draw (c:Ctx) (n:Nat):Ctx:={ c with w:={ c.w with drawn:=n } }
theorem Ctx.draw_keeps (c:Ctx) (n:Nat):am c (c.draw n):=⟨λ_ h=>h,λ_ _ h=>h,λ_ _=>rfl,λ_ _ _ h=>h⟩
theorem Rel.draw {c:Ctx}{h:aB}(R:Rel c h) (n:Nat) (hn:c.w.drawn<=n:=by exact Nat.le_succ _):Rel (c.draw n) h∧aZ c h (c.draw n) h:=
 ⟨⟨R.size,R.fresh,λj bx hg=>let⟨b,o,h1,h2,h3⟩:=R.live j bx hg;⟨b,o,h1,h2,h3.keep (c.draw_keeps n) rfl⟩,R.inj,GT.kept (c.draw_keeps n) R.inv⟩,
   ⟨c.draw_keeps n,rfl,⟨rfl,hn⟩,rfl,kP _,kP _,λ_ _ _=>rfl,λ_ h=>.inr h,λ_ h=>.inl h⟩⟩
theorem Rel.next {c:Ctx}{h:aB}(R:Rel c h){n:Nat}(hn:h.next<=n):Rel c ⟨n,h.bs⟩:=⟨R.size,λid hid=>R.fresh id (Nat.le_trans hn hid),R.live,R.inj,R.inv⟩
end Go.Am
/-
 The abstract machine,part 4: operations that only look: operands,loads,addresses,fields,indexes,lengths,slices of slices,arithmetic.
-/
namespace Go.Am
variable [GT]
theorem b8 {α:Type}{P:Program}:∀ (s:Sem α){a:α}(w:World),av P s=some a->s.run P w=.ok a w
 | .pure x,a,w,h=>by simp only[av,kA] at h;subst h;rfl
 | .program k,a,w,h=>by simp only[av] at h;simpa only[Sem.run] using b8 (k P) w h
 | .mark m k,a,w,h=>by simp only[av] at h;simpa only[Sem.run] using b8 k w h
 | .load _ _ _,_,_,h|.store _ _ _ _,_,_,h|.new _ _,_,_,h|.shape _ _,_,_,h|.freeze _ _ _,_,_,h|.frozen _ _,_,_,h|.getObj _ _,_,_,h|.setObj _ _ _,_,_,h
 | .choose _ _,_,_,h|.sys _ _,_,_,h|.halt _,_,_,h=>by simp[av] at h
section
variable {P:Program}{ti:TI}{c:Ctx}{h:aB}
theorem V.undef:V c aM undef:=by simp only[aM,V];exact⟨[],rfl,VS.nil⟩
theorem VS.getD {tmps:List D}{ys:List Value}(ht:VS c tmps ys) (t:Nat):V c (tmps.getD t aM) (ys.getD t undef):=by
 cases hd:tmps[t]? with
 | none=>
  have hl:=ht.length
  have:ys[t]?=none:=by rw[List.getElem?_eq_none_iff] at *;omega
  simp only[List.getD,hd,this,Option.getD_none];exact V.undef
 | some d=>
  obtain⟨y,hy,hv⟩:=ht.get t d hd;simpa only[List.getD,hd,hy,Option.getD_some] using hv
theorem aI {tmps:List D}{a:Act}(hI:GT.inv c) (ht:VS c tmps a.tmps.toList){x:Operand}{d:D}(hx:ev tmps x=some d):V c d (a.eval x):=by
 cases x with
 | tmp t=>
  have:=ht.getD t
  simp only[ev] at hx;split at hx
  ·simp at hx
  ·simp only[kA] at hx;subst hx;simpa [Act.eval] using this
 | const v=>exact bY c v d hx
 | global g=>
  simp only[ev,kJ] at hx;obtain⟨cs,h1,rfl⟩:=hx;exact GT.tabOk hI h1
 | func f=>
  simp only[ev,kA] at hx;subst hx;simp only[V,Act.eval];exact⟨[],[],rfl,VS.nil,VS.nil⟩
theorem ofV_ne {x:Value}{d:D}(h:ofV x=some d):d≠.any:=by
 intro e;subst e;cases x with
 | pointer a=>cases a<;>simp[ofV] at h
 | map a=>cases a<;>simp[ofV] at h
 | slice a n m=>
  cases a with
  | some _=>simp[ofV] at h
  | none=>cases n<;>cases m<;>simp[ofV] at h
 | agg cs=>simp only[ofV,kJ] at h;obtain⟨_,_,h⟩:=h;cases h
 | tuple cs=>simp only[ofV,kJ] at h;obtain⟨_,_,h⟩:=h;cases h
 | _=>simp[ofV] at h
theorem EQ {tmps:List D}{x:Operand}{d:D}(hx:ev tmps x=some d):d≠.any:=by
 cases x with
 | tmp t=>
  simp only[ev] at hx;split at hx
  ·simp at hx
  ·rename_i d' hne;simp only[kA] at hx;subst hx;exact λe=>hne e
 | const v=>exact ofV_ne hx
 | global g=>
  simp only[ev,kJ] at hx;obtain⟨cs,h1,rfl⟩:=hx;simp
 | func f=>simp only[ev,kA] at hx;subst hx;simp
theorem b9 {tmps:List D}{a:Act}(hI:GT.inv c) (ht:VS c tmps a.tmps.toList):∀ {xs:List Operand}{ds:List D},evs tmps xs=some ds->VS c ds (xs.map a.eval)
 | [],ds,h=>by simp only[evs,kA] at h;subst h;exact VS.nil
 | x::xs,ds,h=>by
  simp only[evs] at h;split at h
  ·rename_i d ds' h1 h2;simp only[kA] at h;subst h;exact VS.cons (aI hI ht h1) (b9 hI ht h2)
  ·simp at h
theorem jZ {d:D}{y:Value}(hna:d≠.any) (hv:V c d y):VS c (cU d) y.cells.toList:=by
 cases d with
 | agg cs=>simp only[V] at hv;obtain⟨ys,rfl,h1⟩:=hv;simpa [cU,Value.cells] using h1
 | v x=>
  have:=hv
  simp only[V] at hv;obtain⟨h1,rfl⟩:=hv;cases y<;>simp[c7] at h1<;>exact VS.cons this VS.nil
 | str s=>have:=hv;simp only[V] at hv;subst hv;exact VS.cons this VS.nil
 | imm n cs=>have:=hv;simp only[V] at hv;obtain⟨_,_,_,rfl,_⟩:=hv;exact VS.cons this VS.nil
 | iptr cs=>have:=hv;simp only[V] at hv;obtain⟨_,_,_,rfl,_⟩:=hv;exact VS.cons this VS.nil
 | sl id off n cap es ex=>have:=hv;simp only[V] at hv;obtain⟨_,_,_,_,_,_,rfl,_⟩:=hv;exact VS.cons this VS.nil
 | ptr id off=>have:=hv;simp only[V] at hv;obtain⟨_,_,_,rfl⟩:=hv;exact VS.cons this VS.nil
 | tup cs=>have:=hv;simp only[V] at hv;obtain⟨_,rfl,_⟩:=hv;exact VS.cons this VS.nil
 | fn f a b=>have:=hv;simp only[V] at hv;obtain⟨_,_,rfl,_⟩:=hv;exact VS.cons this VS.nil
 | map id=>have:=hv;simp only[V] at hv;obtain⟨_,_,rfl⟩:=hv;exact VS.cons this VS.nil
 | iface t d=>have:=hv;simp only[V] at hv;obtain⟨_,rfl,_⟩:=hv;exact VS.cons this VS.nil
 | e0=>have:=hv;simp only[V] at hv;obtain⟨_,rfl⟩:=hv;exact VS.cons this VS.nil
 | any=>exact absurd rfl hna
 | yf id=>have:=hv;simp only[V] at hv;obtain⟨_,_,rfl⟩:=hv;exact VS.cons this VS.nil
 | zs b=>have:=hv;simp only[V] at hv;obtain⟨_,_,rfl,_⟩:=hv;exact VS.cons this VS.nil
theorem gM (R:Rel c h){id:Nat}{cs:List D}{ex:Bool}(hg:h.get id=some (.cells cs ex)) :
  ∃ b o ys z,c.φ id=some (b,o)∧VS c cs ys∧Holds c.w b o ys∧(∃ e,c.w.shape? b=some (e,z))∧o+ys.length<=z:=by
 obtain⟨b,o,h1,_,a,e,pre,ys,tl,h2,h3,h4,h5,_⟩:=R.live id _ hg;refine⟨b,o,ys,a.size,h1,h5,λi hi=>?_,⟨e,by simp[World.shape?,h2]⟩,?_⟩
 ·unfold World.cell?;simp only[h2,Option.isSome_none,Bool.false_eq_true,if_false];rw[<-Array.getElem?_toList,h3,<-h4,List.getElem?_append_right om,Nat.add_sub_cancel_left,List.getElem?_append_left hi,List.getElem?_eq_getElem hi]
 ·have:a.toList.length=(pre++(ys++tl)).length:=by rw[h3]
  simp at this;omega
theorem cP (b o n:Nat):(Addr.add ⟨b,o,none⟩ n)=⟨b,o+n,none⟩:=by
 unfold Addr.add;split
 ·rename_i h;simp[h]
 ·rfl
theorem Holds.sub {w:World}{b o:Nat}{ys:List Value}(hh:Holds w b o ys) (off n:Nat):Holds w b (o+off) ((ys.drop off).take n):=λi hi=>by
 have hi':off+i<ys.length:=by simp at hi;omega
 have:=hh (off+i) hi'
 rw[List.getElem_take,List.getElem_drop];rw[<-this];congr 1;simp[Nat.add_assoc]
theorem Holds.load {w:World}{b o:Nat}{ys:List Value}(hh:Holds w b o ys):(loadCells ⟨b,o,none⟩ ys.length).run P w=.ok ys.toArray w:=
 run_loadCells_list w _ ys λj v hj=>by
  obtain⟨hlt,he⟩:=List.getElem?_eq_some_iff.1 hj;rw[cP,hh j hlt,he]
theorem Holds.loadN {w:World}{b o n:Nat}{ys:List Value}(hh:Holds w b o ys) (hn:n=ys.length):(loadCells ⟨b,o,none⟩ n).run P w=.ok ys.toArray w:=by
 subst hn;exact hh.load
theorem lH {t:TypeId}{u:TypeDesc}(hu:P.underlying t=some u) (w:World):(isAgg t).run P w=.ok (sD u) w:=by
 unfold isAgg;simp only[Sem.run_bind,run_underlying hu,Result.andThen];cases u<;>rfl
theorem ai {t:TypeId}{i:TypeInfo}(hi:P.info? t=some i) (w:World):(sizeOf t).run P w=.ok i.size w:=by
 simp[sizeOf,typeInfo,hi]
theorem li (T:TOk P ti){t:TypeId}{x:eH}(hx:ti t=some x){b o:Nat}{ys:List Value}{cs:List D}{d:D}(hh:Holds c.w b o ys) (hl:ys.length=x.size)
  (hv:VS c cs ys) (hd:d5 x.u cs=some d):∃ v,(loadVar t ⟨b,o,none⟩).run P c.w=.ok v c.w∧V c d v:=by
 obtain⟨hu,i,z,hi,hs,_⟩:=T.ok t x hx;unfold d5 at hd;unfold loadVar;simp only[Sem.run_bind,lH hu,Result.andThen];cases hA:sD x.u with
 | true=>
  simp only[hA,if_true,kA] at hd;subst hd;simp only[if_true,Sem.run_bind,ai hi,Result.andThen];rw[Holds.loadN hh (by rw[hs,hl])];refine⟨_,rfl,?_⟩;simp only[V];exact⟨ys,rfl,hv⟩
 | false=>
  simp only[hA,Bool.false_eq_true,if_false] at hd;split at hd
  ·rename_i d0;simp only[kA] at hd;subst hd;obtain⟨y,ys',rfl,hy,hys⟩:=hv.inv;simp only[VS] at hys;subst hys;have:=hh 0 si
   simp only[Nat.add_zero,List.getElem_cons_zero] at this;refine⟨y,?_,hy⟩;simp[run_load,this]
  ·simp at hd
theorem iT {α:Type}{l:List α}{off n:Nat}(h:off+n<=l.length):((l.drop off).take n).length=n:=by simp;omega
theorem mE (T:TOk P ti) (R:Rel c h){t:TypeId}{da d:D}{va:Value}(hd:iH ti h t da=some d) (ha:V c da va) :
  ∃ v,(Instr.loadAt t va).run P c.w=.ok v c.w∧V c d v:=by
 unfold iH at hd;split at hd
 ·rename_i x hx;split at hd
  ·rename_i id off;split at hd
   ·rename_i cs ex hg;split at hd
    ·rename_i hle;obtain⟨b,o,ys,z,h1,h2,h3,_⟩:=gM R hg;simp only[V] at ha;obtain⟨b',o',h1',rfl⟩:=ha;rw[h1] at h1';injection h1' with h1';injection h1' with e1 e2;subst e1;subst e2
     have hlen:=h2.length;simp only[Instr.loadAt,Instr.sureAddr,Sem.run_bind,Sem.run_pure,Result.andThen];exact li T hx (h3.sub off x.size) (iT om) ((h2.drop off).take x.size) hd
    ·simp at hd
   ·simp at hd
  ·rename_i cs;split at hd
   ·rename_i hle;simp only[V] at ha;obtain⟨b,o,ys,rfl,h2,h3⟩:=ha;have hlen:=h2.length;simp only[Instr.loadAt,Instr.sureAddr,Sem.run_bind,Sem.run_pure,Result.andThen]
    have hh:Holds c.w b o ys:=by
     rcases h3 with h3|h3
     ·subst h3;intro i hi;simp at hi
     ·exact h3.2
    have:=hh.sub 0 x.size
    simp only[Nat.add_zero,List.drop_zero] at this;exact li T hx this (by simp;omega) (h2.take x.size) hd
   ·simp at hd
  ·simp at hd
 ·simp at hd
theorem kS {f:Field}{i:TypeInfo}(hi:P.info? f.type=some i) (hs:i.size≠0) (a:Addr) (w:World):(fieldPlace a f).run P w=.ok (a.add f.offset) w:=by
 unfold fieldPlace;simp only[Sem.run_bind,ai hi,Result.andThen,if_neg hs];rfl
theorem ji (T:TOk P ti){t:TypeId}{f:Nat}{dx d:D}{vx:Value}(hd:fQ ti t dx f=some d) (hx:V c dx vx) :
  ∃ v,(Instr.fieldAt t vx f).run P c.w=.ok v c.w∧V c d v:=by
 unfold fQ at hd;split at hd
 ·rename_i a ha;obtain⟨hu,_⟩:=T.ok t a ha;split at hd
  ·rename_i fs hfs;rw[hfs] at hu;split at hd
   ·rename_i fl hfl;split at hd
    ·rename_i fi hfi;obtain⟨_,i,z,hi,hs,_⟩:=T.ok fl.type fi hfi;split at hd
     ·simp at hd
     ·rename_i h0;have hfl':fs[f]?=some fl:=by rw[<-Array.getElem?_toList];exact hfl
      split at hd
      ·rename_i id off;simp only[kA] at hd;subst hd;simp only[V] at hx;obtain⟨b,o,h1,rfl⟩:=hx;refine⟨.pointer (some ⟨b,o+(off+fl.offset),none⟩),?_,?_⟩
       ·simp only[Instr.fieldAt,Sem.run_bind,run_underlying hu,Result.andThen,hfl',Instr.sureAddr,Sem.run_pure,kS hi (by rw[hs];exact h0),cP,Nat.add_assoc]
       ·simp only[V];exact⟨b,o,h1,rfl⟩
      ·rename_i cs;simp only[kA] at hd;subst hd;simp only[V] at hx;obtain⟨b,o,ys,rfl,h2,h3⟩:=hx;refine⟨.pointer (some ⟨b,o+fl.offset,none⟩),?_,?_⟩
       ·simp only[Instr.fieldAt,Sem.run_bind,run_underlying hu,Result.andThen,hfl',Instr.sureAddr,Sem.run_pure,kS hi (by rw[hs];exact h0),cP]
       ·simp only[V];refine⟨b,o+fl.offset,ys.drop fl.offset,rfl,h2.drop _,?_⟩;rcases h3 with h3|⟨h3,h4⟩
        ·subst h3;left;simp
        ·right;refine⟨h3,?_⟩;have:=h4.sub fl.offset (ys.length)
         rwa [kE si] at this
      ·simp at hd
    ·simp at hd
   ·simp at hd
  ·simp at hd
 ·simp at hd
theorem kR (T:TOk P ti){t:TypeId}{x:eH}(hx:ti t=some x){ys:List Value}{cs:List D}{off:Nat}{d:D}(hv:VS c cs ys)
  (hd:d5 x.u ((cs.drop off).take x.size)=some d):∃ v,(part t ys.toArray off).run P c.w=.ok v c.w∧V c d v:=by
 obtain⟨hu,i,z,hi,hs,_⟩:=T.ok t x hx;unfold d5 at hd;unfold part;simp only[Sem.run_bind,lH hu,Result.andThen];cases hA:sD x.u with
 | true=>
  simp only[hA,if_true,kA] at hd;subst hd;simp only[if_true,Sem.run_bind,ai hi,Result.andThen,Sem.run_pure];refine⟨_,rfl,?_⟩;simp only[V];refine⟨(ys.drop off).take x.size,?_,(hv.drop off).take x.size⟩;rw[hs];congr 1;apply Array.ext';simp[List.take_drop]
 | false=>
  simp only[hA,Bool.false_eq_true,if_false] at hd;split at hd
  ·rename_i d0 hcs;simp only[kA] at hd;subst hd
   have h1:cs[off]?=some d0:=by
    have:((cs.drop off).take x.size)[0]?=some d0:=by rw[hcs];rfl
    rw[List.getElem?_take] at this;split at this
    ·simpa using this
    ·simp at this
   obtain⟨y,hy,hvy⟩:=hv.get off d0 h1;refine⟨y,?_,hvy⟩;simp[hy]
  ·simp at hd
theorem o8 (T:TOk P ti){t:TypeId}{f:Nat}{dx d:D}{vx:Value}(hd:oV ti t dx f=some d) (hx:V c dx vx) :
  ∃ v,(Instr.field t vx f).run P c.w=.ok v c.w∧V c d v:=by
 unfold oV at hd;split at hd
 ·rename_i a ha;obtain⟨hu,_⟩:=T.ok t a ha;split at hd
  ·rename_i fs cs hfs;rw[hfs] at hu;split at hd
   ·rename_i fl hfl;split at hd
    ·rename_i fi hfi;split at hd
     ·rename_i hle;have hfl':fs[f]?=some fl:=by rw[<-Array.getElem?_toList];exact hfl
      simp only[V] at hx;obtain⟨ys,rfl,h2⟩:=hx;obtain⟨v,h3,h4⟩:=kR (c:=c) T hfi h2 hd;refine⟨v,?_,h4⟩;simp only[Instr.field,Sem.run_bind,run_underlying hu,Result.andThen,hfl',asAgg,Sem.run_pure,h3]
     ·simp at hd
    ·simp at hd
   ·simp at hd
  ·simp at hd
 ·simp at hd
theorem eR {d:D}{y:Value}{n:Nat}(hd:de d=some n) (hv:V c d y):∃ k,y=.int k n:=by
 unfold de at hd;split at hd
 ·rename_i k m;split at hd
  ·rename_i h0;simp only[kA] at hd;subst hd;simp only[V] at hv;exact⟨k,by rw[hv.2];congr 1;omega⟩
  ·simp at hd
 ·simp at hd
theorem jg (T:TOk P ti){t:TypeId}{dx di d:D}{vx vi:Value}(hd:cV ti t dx di=some d) (hx:V c dx vx) (hi:V c di vi) :
  ∃ v,(Instr.indexAt t vx vi).run P c.w=.ok v c.w∧V c d v:=by
 unfold cV at hd;split at hd
 ·rename_i a k ha hk;obtain⟨hu,_⟩:=T.ok t a ha;obtain⟨kk,rfl⟩:=eR hk hi;split at hd
  ·rename_i e he;rw[he] at hu;split at hd
   ·rename_i ei hei;obtain⟨_,i,z,hi',hs,_⟩:=T.ok e ei hei;split at hd
    ·rename_i n cs;split at hd
     ·rename_i hc;obtain⟨h1,h2,h3⟩:=hc;simp only[kA] at hd;subst hd;simp only[V] at hx;obtain⟨a',cap,ys,rfl,_,hvs,hcase⟩:=hx;have hlen:=hvs.length;have hpos:0<ys.length:=by rw[hlen,h2];exact Nat.mul_pos om h3
      have hle:k*ei.size+ei.size<=n*ei.size:=by rw[<-Nat.succ_mul];exact Nat.mul_le_mul_right _ h1
      rcases hcase with h0|⟨b,o,rfl,hS,hh⟩
      ·subst h0;simp at hpos
      ·refine⟨.pointer (some ⟨b,o+k*ei.size,none⟩),?_,?_⟩
       ·have hki:(0:Int)<=(k:Int)∧(k:Int)<(n:Int):=by omega
        simp only[Instr.indexAt,Sem.run_bind,asIntOf,Sem.run_pure,Result.andThen,run_underlying hu,hki,and_self,if_true,ai hi',cP,Int.toNat_natCast,hs]
       ·simp only[V];exact⟨b,o+k*ei.size,_,rfl,(hvs.drop _).take _,.inr ⟨hS,hh.sub _ _⟩⟩
     ·simp at hd
    ·rename_i id off n cap es ex;split at hd
     ·rename_i hc;obtain⟨h1,h2⟩:=hc;simp only[kA] at hd;subst hd;simp only[V] at hx;obtain⟨b,o,cap',e',z',hφ,rfl,_⟩:=hx;refine⟨.pointer (some ⟨b,o+(off+k*es),none⟩),?_,?_⟩
      ·have hki:(0:Int)<=(k:Int)∧(k:Int)<(n:Int):=by omega
       simp only[Instr.indexAt,Sem.run_bind,asIntOf,Sem.run_pure,Result.andThen,run_underlying hu,hki,and_self,if_true,ai hi',cP,Int.toNat_natCast,hs,h2,Nat.add_assoc]
      ·simp only[V];exact⟨b,o,hφ,rfl⟩
     ·simp at hd
    ·simp at hd
   ·simp at hd
  ·rename_i n e he;rw[he] at hu;split at hd
   ·rename_i ei hei;obtain⟨_,i,z,hi',hs,_⟩:=T.ok e ei hei;split at hd
    ·rename_i id off;split at hd
     ·rename_i h1;simp only[kA] at hd;subst hd;simp only[V] at hx;obtain⟨b,o,hφ,rfl⟩:=hx;refine⟨.pointer (some ⟨b,o+(off+k*ei.size),none⟩),?_,?_⟩
      ·have hki:(0:Int)<=(k:Int)∧(k:Int)<(n:Int):=by omega
       simp only[Instr.indexAt,Sem.run_bind,asIntOf,Sem.run_pure,Result.andThen,run_underlying hu,hki,and_self,if_true,ai hi',cP,Int.toNat_natCast,hs,Nat.add_assoc,Instr.sureAddr]
      ·simp only[V];exact⟨b,o,hφ,rfl⟩
     ·simp at hd
    ·rename_i cs;split at hd
     ·rename_i h1;simp only[kA] at hd;subst hd;simp only[V] at hx;obtain⟨b,o,ys,rfl,h2,h3⟩:=hx;refine⟨.pointer (some ⟨b,o+k*ei.size,none⟩),?_,?_⟩
      ·have hki:(0:Int)<=(k:Int)∧(k:Int)<(n:Int):=by omega
       simp only[Instr.indexAt,Sem.run_bind,asIntOf,Sem.run_pure,Result.andThen,run_underlying hu,hki,and_self,if_true,ai hi',cP,Int.toNat_natCast,hs,Instr.sureAddr]
      ·simp only[V];refine⟨b,o+k*ei.size,ys.drop (k*ei.size),rfl,h2.drop _,?_⟩;rcases h3 with h3|⟨h3,h4⟩
       ·subst h3;left;simp
       ·right;refine⟨h3,?_⟩;have:=h4.sub (k*ei.size) ys.length
        rwa [kE si] at this
     ·simp at hd
    ·simp at hd
   ·simp at hd
  ·simp at hd
 ·simp at hd
theorem o4 (T:TOk P ti){t:TypeId}{dx di d:D}{vx vi:Value}(hd:ky ti t dx di=some d) (hx:V c dx vx) (hi:V c di vi) :
  ∃ v,(Instr.index t vx vi).run P c.w=.ok v c.w∧V c d v:=by
 unfold ky at hd;split at hd
 ·rename_i a k ha hk;obtain⟨hu,_⟩:=T.ok t a ha;obtain⟨kk,rfl⟩:=eR hk hi;split at hd
  ·rename_i s he;rw[he] at hu;split at hd
   ·rename_i b hb;simp only[kA] at hd;subst hd;simp only[V] at hx;subst hx;have hlt:=(List.getElem?_eq_some_iff.1 hb);refine⟨.int .u8 b.toNat,?_,by simp[V,c7]⟩;have h0:(0:Int)<=(k:Int):=by omega
    have hs:(ByteArray.mk s.toArray)[k]?=some b:=by
     obtain⟨h1,h2⟩:=hlt;have h1':k<(ByteArray.mk s.toArray).size:=by simpa [ByteArray.size] using h1
     rw[getElem?_pos (ByteArray.mk s.toArray) k h1'];rw[<-h2];rfl
    simp[Instr.index,Sem.run_bind,asIntOf,run_underlying hu,h0,hs]
   ·simp at hd
  ·rename_i n e cs he;rw[he] at hu;split at hd
   ·rename_i ei hei;obtain⟨_,i,z,hi',hs,_⟩:=T.ok e ei hei;split at hd
    ·rename_i hc;simp only[V] at hx;obtain⟨ys,rfl,h2⟩:=hx;obtain⟨v,h3,h4⟩:=kR (c:=c) T hei h2 hd;refine⟨v,?_,h4⟩;have hki:(0:Int)<=(k:Int)∧(k:Int)<(n:Int):=by omega
     simp only[Instr.index,Sem.run_bind,asIntOf,Sem.run_pure,Result.andThen,run_underlying hu,hki,and_self,if_true,ai hi',Int.toNat_natCast,hs,h3]
    ·simp at hd
   ·simp at hd
  ·simp at hd
 ·simp at hd
theorem se (T:TOk P ti) (R:Rel c h){ts:List TypeId}{ty:TypeId}{dx d:D}{vx:Value}(hd:fw ti h ts dx=some d) (hx:V c dx vx) :
  ∃ v,(Builtin.len_ ts.toArray ty #[vx]).run P c.w=.ok v c.w∧V c d v:=by
 unfold fw at hd;split at hd
 ·rename_i t ts';split at hd
  ·rename_i a ha;obtain⟨hu,_⟩:=T.ok t a ha;split at hd;all_goals(first|(simp only[reduceCtorEq] at hd;done)|(rename_i he;rw[he] at hu)|skip)
   ·rename_i s;simp only[kA] at hd;subst hd;simp only[V] at hx;subst hx;have e:(ByteArray.mk s.toArray).size=s.length:=rfl;exact⟨goInt s.length,by simp[Builtin.len_,run_underlying hu,e],by simp[goInt,V,c7]⟩
   ·simp only[kA] at hd;subst hd;simp only[V] at hx;obtain⟨_,rfl⟩:=hx;exact⟨goInt 0,by simp[Builtin.len_,run_underlying hu],by simp[goInt,V,c7]⟩
   ·simp only[kA] at hd;subst hd;simp only[V] at hx;obtain⟨_,rfl⟩:=hx;exact⟨goInt 0,by simp[Builtin.len_,run_underlying hu],by simp[goInt,V,c7]⟩
   ·simp only[kA] at hd;subst hd;simp only[V] at hx;obtain⟨_,_,rfl,_⟩:=hx;exact⟨goInt 0,by simp[Builtin.len_,run_underlying hu],by simp[goInt,V,c7]⟩
   ·rename_i n cs;simp only[kA] at hd;subst hd;simp only[V] at hx;obtain⟨_,_,_,rfl,_⟩:=hx;exact⟨goInt n,by simp[Builtin.len_,run_underlying hu],by simp[goInt,V,c7]⟩
   ·rename_i n _ _ _;simp only[kA] at hd;subst hd;simp only[V] at hx;obtain⟨_,_,_,_,_,_,rfl,_⟩:=hx;exact⟨goInt n,by simp[Builtin.len_,run_underlying hu],by simp[goInt,V,c7]⟩
   ·rename_i n _;simp only[kA] at hd;subst hd;exact⟨goInt n,by simp[Builtin.len_,run_underlying hu],by simp[goInt,V,c7]⟩
   ·simp only[kA] at hd;subst hd;simp only[V] at hx;obtain⟨_,rfl⟩:=hx;exact⟨goInt 0,by simp[Builtin.len_,run_underlying hu],by simp[goInt,V,c7]⟩
   ·rename_i id;split at hd
    ·rename_i es hg;simp only[kA] at hd;subst hd;simp only[V] at hx;obtain⟨b,hφ,rfl⟩:=hx;obtain⟨b',o,h1,_,h2,arr,clock,h3,h4,_⟩:=R.live id _ hg;rw[hφ] at h1;injection h1 with h1;injection h1 with e1 e2;subst e1
     have hl:∀ (es:List (D×D)) (l:List MapEntry),ES c es l->l.length=es.length:=by
      intro es
      induction es with
      | nil=>intro l hl;simp only[ES] at hl;subst hl;rfl
      | cons x es ih=>intro l hl;obtain⟨_,l',rfl,_,_,h'⟩:=hl;simp[ih l' h']
     have:=hl es _ h4
     refine⟨goInt arr.size,by simp[Builtin.len_,run_underlying hu,getObj,Sem.run,h3],?_⟩;have e:arr.size=es.length:=by simpa using this
     simp[goInt,V,c7,e]
    ·simp at hd
  ·simp at hd
 ·simp at hd
end
end Go.Am
/-
 The abstract machine,part 5: slices of slices and strings,look-ups in maps,composite literals,arithmetic,conversions that only look.
-/
namespace Go.Am
variable [GT]
section
variable {P:Program}{ti:TI}{c:Ctx}{h:aB}
def OV (c:Ctx):Option D->Option Value->Prop
 | none,none=>True
 | some d,some v=>V c d v
 | _,_=>False
theorem ap {d:Option D}{v:Option Value}{n dflt:Nat}(hd:ca d dflt=some n) (hv:OV c d v):(v=none∧n=dflt)∨∃ k,v=some (.int k n):=by
 unfold ca at hd;cases d with
 | none=>
  cases v with
  | none=>simp only[kA] at hd;exact .inl ⟨rfl,hd.symm⟩
  | some v=>simp[OV] at hv
 | some d=>
  cases v with
  | none=>simp[OV] at hv
  | some v=>
   obtain⟨k,rfl⟩:=eR hd (show V c d v from hv);exact .inr ⟨k,rfl⟩
theorem uD {d:D}{v:Option Value}{n:Nat}(hd:de d=some n) (hv:OV c (some d) v):∃ k,v=some (.int k n):=by
 cases v with
 | none=>simp[OV] at hv
 | some v=>obtain⟨k,rfl⟩:=eR hd (show V c d v from hv);exact⟨k,rfl⟩
theorem uF {d:Option D}{v:Option Value}{n:Nat}(hd:d.bind de=some n) (hv:OV c d v):∃ k,v=some (.int k n):=by
 cases d with
 | none=>simp at hd
 | some d=>exact uD (by simpa using hd) hv
theorem j9 {k:IntKind}{n y:Nat}(hn:n<=y) (code:BoundsCode) (w:World):(Instr.sliceBound (.int k n) y code).run P w=.ok n w:=by
 have:(0:Int)<=(n:Int)∧(n:Int)<=(y:Int):=by omega
 simp only[Instr.sliceBound,asIntOf,Sem.run_bind,Sem.run_pure,Result.andThen,this,and_self,if_true,Int.toNat_natCast]
theorem cK {b:Bool}{len cap l hh:Nat}{lo hi:Option Value}(hlo:(lo=none∧l=0)∨∃ k,lo=some (.int k l)) (hhi:(hi=none∧hh=len)∨∃ k,hi=some (.int k hh)) (h1:l<=hh) (h2:hh<=cap) (w:World) :
  (Instr.sliceBounds b len cap lo hi none).run P w=.ok (l,hh,cap) w:=by
 rcases hlo with⟨rfl,rfl⟩|⟨k,rfl⟩<;>rcases hhi with⟨rfl,rfl⟩|⟨k',rfl⟩ <;>
  simp[Instr.sliceBounds,Sem.run_bind,j9,h1,h2]
theorem fK {b:Bool}{len cap l hh m:Nat}{lo:Option Value}{kh km:IntKind}(hlo:(lo=none∧l=0)∨∃ k,lo=some (.int k l)) (h1:l<=hh) (h2:hh<=m) (h3:m<=cap) (w:World) :
  (Instr.sliceBounds b len cap lo (some (.int kh hh)) (some (.int km m))).run P w=.ok (l,hh,m) w:=by
 rcases hlo with⟨rfl,rfl⟩|⟨k,rfl⟩<;>simp[Instr.sliceBounds,Sem.run_bind,j9,h1,h2,h3]
theorem bQ {t e:TypeId}(hu:P.underlying t=some (.slice e)){i:TypeInfo}(hi:P.info? e=some i){a:Option Addr}{len cap l hh m:Nat}{lo hi' mx:Option Value}{w:World}
  (hb:(Instr.sliceBounds true len cap lo hi' mx).run P w=.ok (l,hh,m) w) :
  (Instr.sliceAt t (.slice a len cap) lo hi' mx).run P w=.ok (.slice (if m=l then a else a.map (·.add (l*i.size))) (hh-l) (m-l)) w:=by
 simp only[Instr.sliceAt,Sem.run_bind,run_underlying hu,Result.andThen,Instr.slice,hb,ai hi,Sem.run_pure]
theorem oa (T:TOk P ti){t:TypeId}{dx d:D}{lo hi mx:Option D}{vx:Value}{lo' hi' mx':Option Value}(hd:dg ti t dx lo hi mx=some d)
  (hx:V c dx vx) (hl:OV c lo lo') (hh:OV c hi hi') (hm:OV c mx mx'):∃ v,(Instr.sliceAt t vx lo' hi' mx').run P c.w=.ok v c.w∧V c d v:=by
 unfold dg at hd;split at hd
 ·rename_i a ha;obtain⟨hu,_⟩:=T.ok t a ha;split at hd
  ·rename_i s he;rw[he] at hu;split at hd
   ·rename_i l h0 hl1 hh1;have hm0:mx'=none:=by cases mx' with|none=>rfl|some _=>simp[OV] at hm
    subst hm0;split at hd
    ·rename_i hc;simp only[kA] at hd;subst hd;simp only[V] at hx;subst hx;have e:(ByteArray.mk s.toArray).size=s.length:=rfl;refine⟨.string ((ByteArray.mk s.toArray).extract l h0),?_,?_⟩
     ·have hb:=cK (P:=P) (b:=false) (len:=s.length) (cap:=s.length) (ap hl1 hl) (ap hh1 hh) hc.1 hc.2 c.w;simp only[Instr.sliceAt,Sem.run_bind,run_underlying hu,Result.andThen,Instr.slice,Option.isSome_none,Bool.false_eq_true,if_false,e,hb,Sem.run_pure]
     ·simp only[V];congr 1;have:=Lib.extract_toList (ByteArray.mk s.toArray) l h0
      rw[Lib.toList_data] at this;rw[<-Lib.mk_data ((ByteArray.mk s.toArray).extract l h0),this]
    ·simp at hd
   ·simp at hd
  ·rename_i e he;rw[he] at hu;split at hd
   ·rename_i ei hei;obtain⟨_,i,z,hi',hs,_⟩:=T.ok e ei hei;split at hd
    ·have hm0:mx'=none:=by cases mx' with|none=>rfl|some _=>simp[OV] at hm
     subst hm0;split at hd
     ·rename_i hl1 hh1;simp only[kA] at hd;subst hd;have hx':=hx;simp only[V] at hx;obtain⟨_,rfl⟩:=hx;have hb:=cK (P:=P) (b:=true) (len:=0) (cap:=0) (ap hl1 hl) (ap hh1 hh) (kP _) (kP _) c.w;exact⟨_,bQ hu hi' hb,by simpa using hx'⟩
     ·simp at hd
    ·rename_i m;split at hd
     ·rename_i hl1 hh1 hm1;simp only[kA] at hd;subst hd;have hx':=hx;simp only[V] at hx;obtain⟨_,rfl⟩:=hx;obtain⟨km,rfl⟩:=uD hm1 hm;obtain⟨kh,rfl⟩:=uF hh1 hh;have hb:=fK (P:=P) (b:=true) (len:=0) (cap:=0) (kh:=kh) (km:=km) (ap hl1 hl) (kP _) (kP _) (kP _) c.w;exact⟨_,bQ hu hi' hb,by simpa using hx'⟩
     ·simp at hd
    ·have hm0:mx'=none:=by cases mx' with|none=>rfl|some _=>simp[OV] at hm
     subst hm0;split at hd
     ·rename_i hl1 hh1;simp only[kA] at hd;subst hd;simp only[V] at hx;obtain⟨a0,rfl⟩:=hx;have hb:=cK (P:=P) (b:=true) (len:=0) (cap:=0) (ap hl1 hl) (ap hh1 hh) (kP _) (kP _) c.w;exact⟨_,bQ hu hi' hb,by simp only[V];exact⟨_,rfl⟩⟩
     ·simp at hd
    ·rename_i n cs;have hm0:mx'=none:=by cases mx' with|none=>rfl|some _=>simp[OV] at hm
     subst hm0;split at hd
     ·rename_i l h0 hl1 hh1;split at hd
      ·rename_i hc;obtain⟨c1,c2,c3⟩:=hc;simp only[kA] at hd;subst hd;simp only[V] at hx;obtain⟨a0,cap,ys,rfl,hcap,hvs,hcase⟩:=hx;have hlen:=hvs.length;have hb:=cK (P:=P) (b:=true) (len:=n) (cap:=cap) (ap hl1 hl) (ap hh1 hh) c1 (Nat.le_trans c2 hcap) c.w;refine⟨_,bQ hu hi' hb,?_⟩;simp only[V];refine⟨_,_,_,rfl,by omega,(hvs.drop _).take _,?_⟩;by_cases h00:h0-l=0
       ·left;simp[h00]
       ·rcases hcase with hc0|⟨b,o,rfl,hS,hh0⟩
        ·subst hc0;left;simp
        ·right;refine⟨b,o+l*ei.size,?_,hS,hh0.sub _ _⟩;rw[if_neg om,hs];simp[cP]
      ·simp at hd
     ·simp at hd
    ·rename_i n cs m;split at hd
     ·rename_i hl1 hh1 hm1;simp only[kA] at hd;subst hd;simp only[V] at hx;obtain⟨a0,cap,ys,rfl,hcap,hvs,hcase⟩:=hx;obtain⟨km,rfl⟩:=uD hm1 hm;obtain⟨kh,rfl⟩:=uF hh1 hh;have hb:=fK (P:=P) (b:=true) (len:=n) (cap:=cap) (kh:=kh) (km:=km) (ap hl1 hl) (kP _) (kP _) (Nat.zero_le _) c.w;exact⟨_,bQ hu hi' hb,by simp only[V];exact⟨_,rfl⟩⟩
     ·simp at hd
    ·rename_i id off n cap es ex;have hm0:mx'=none:=by cases mx' with|none=>rfl|some _=>simp[OV] at hm
     subst hm0;split at hd
     ·rename_i l h0 hl1 hh1;split at hd
      ·rename_i hc;obtain⟨c0,c1,c2⟩:=hc;simp only[V] at hx;obtain⟨b,o,cap',e',z',hφ,rfl,hn,hcap,hex,hsh,hle⟩:=hx;have hb:=cK (P:=P) (b:=true) (len:=n) (cap:=cap') (ap hl1 hl) (ap hh1 hh) c1 (Nat.le_trans c2 hcap) c.w;refine⟨_,bQ hu hi' hb,?_⟩;split at hd
       ·rename_i hlc;simp only[kA] at hd;subst hd;simp only[V]
        have:h0-l=0:=by omega
        exact⟨_,_,[],by rw[this],by omega,VS.nil,.inl rfl⟩
       ·rename_i hlc;simp only[kA] at hd;subst hd;simp only[V];refine⟨b,o,cap' - l,e',z',hφ,?_,by omega,by omega,λhx=>by rw[hex hx],hsh,?_⟩
        ·rw[if_neg om,hs,<-c0];simp[cP,Nat.add_assoc]
        ·have:l*es+(cap' - l)*es=cap' * es:=by rw[<-Nat.add_mul];congr 1;omega
         omega
      ·simp at hd
     ·simp at hd
    ·rename_i id off n cap es ex m;split at hd
     ·rename_i l h0 m0 hl1 hh1 hm1;split at hd
      ·rename_i hc;obtain⟨c0,c1,c2,c3⟩:=hc;simp only[V] at hx;obtain⟨b,o,cap',e',z',hφ,rfl,hn,hcap,hex,hsh,hle⟩:=hx;obtain⟨km,rfl⟩:=uD hm1 hm;obtain⟨kh,rfl⟩:=uF hh1 hh;have hb:=fK (P:=P) (b:=true) (len:=n) (cap:=cap') (kh:=kh) (km:=km) (ap hl1 hl) c1 c2 (Nat.le_trans c3 hcap) c.w;refine⟨_,bQ hu hi' hb,?_⟩;split at hd
       ·rename_i hlc;simp only[kA] at hd;subst hd;simp only[V];have e1:h0-l=0:=by omega
        have e2:m0-l=0:=by omega
        exact⟨_,by rw[e1,e2]⟩
       ·rename_i hlc;simp only[kA] at hd;subst hd;simp only[V];refine⟨b,o,m0-l,e',z',hφ,?_,by omega,by omega,λ_=>rfl,hsh,?_⟩
        ·rw[if_neg om,hs,<-c0];simp[cP,Nat.add_assoc]
        ·have:l*es+(m0-l)*es=m0*es:=by rw[<-Nat.add_mul];congr 1;omega
         have:m0*es<=cap' * es:=Nat.mul_le_mul_right _ om
         omega
      ·simp at hd
     ·simp at hd
    ·simp at hd
   ·simp at hd
  ·simp at hd
 ·simp at hd
theorem nZ (s t:List UInt8):((ByteArray.mk s.toArray) == (ByteArray.mk t.toArray))=(s == t):=by
 rw[Bool.eq_iff_iff,Go.MapKept.bytes_beq];simp only[beq_iff_eq,ByteArray.mk.injEq];exact⟨λh=>congrArg Array.toList h,λh=>by rw[h]⟩
theorem j8 {k k':D}{y y':Value}{r:Bool}{ka:eH}(hu:oH ti ka k=true) (hk:az h k k'=some r) (h1:V c k y) (h2:V c k' y') (hp:∀ i o,k≠.ptr i o) (ha:∀ as,k≠.agg as) :
  Instr.sameNow ka.u y y'=some r:=by
 unfold oH at hu;split at hu
 ·rename_i s hA;rw[hA];cases k'<;>simp only[az,reduceCtorEq,kA] at hk;rename_i s';simp only[V] at h1 h2;subst h1;subst h2;simp only[Instr.sameNow,nZ,hk]
 ·rename_i q n hA;rw[hA];cases k' with
  | v x=>
   cases x with
   | int q' n'=>
    simp only[az] at hk;split at hk
    ·rename_i hkk;simp only[kA] at hk;simp only[V] at h1 h2;obtain⟨_,rfl⟩:=h1;obtain⟨_,rfl⟩:=h2;simp[Instr.sameNow,hkk,hk]
    ·simp at hk
   | _=>simp[az] at hk
  | _=>simp[az] at hk
 ·exact absurd rfl (hp _ _)
 ·exact absurd rfl (ha _)
 ·exact absurd rfl (ha _)
 ·simp at hu
theorem wh {i:Nat}(hl:cg h i=true):∃ box,h.get i=some box:=by
 unfold cg at hl;split at hl
 ·rename_i hg;exact⟨_,hg⟩
 ·simp at hl
theorem qz (R:Rel c h){i:Nat}(hl:cg h i=true):∃ b o e z,c.φ i=some (b,o)∧(∀ j s,c.w.frozen? ⟨b,j,s⟩=false)∧c.w.shape? b=some (e,z):=by
 unfold cg at hl;split at hl
 ·rename_i cs ex hg;obtain⟨b,o,h1,_,a,e,pre,ys,tl,h2,_⟩:=R.live i _ hg;refine⟨b,o,e,a.size,h1,λj s=>?_,by simp[World.shape?,h2]⟩;simp[World.frozen?,h2]
 ·simp at hl
theorem B9 (T:TOk P ti) (R:Rel c h){t:TypeId}{e:TypeId}{x:eH}(hu:P.underlying t=some (.pointer e)) (hx:ti e=some x) (hs:x.size≠0){i o i' o':Nat}{y y':Value}
  (h1:V c (.ptr i o) y) (h2:V c (.ptr i' o') y') (hl:cg h i=true) (hl':cg h i'=true):(Op.equal t y y').run P c.w=.ok (i == i' && o == o') c.w:=by
 simp only[V] at h1 h2;obtain⟨b,p,hb,rfl⟩:=h1;obtain⟨b',p',hb',rfl⟩:=h2;obtain⟨_,inf,z,hi,hsz,_⟩:=T.ok e x hx;obtain⟨b0,o0,e0,z0,k1,kf,ks⟩:=qz R hl;obtain⟨b0',o0',e0',z0',k1',kf',ks'⟩:=qz R hl';rw[hb] at k1;injection k1 with k1;injection k1 with a1 a2;subst a1;subst a2
 rw[hb'] at k1';injection k1' with k1';injection k1' with a1 a2;subst a1;subst a2
 unfold Op.equal Op.maxDepth Op.equalIn;simp only[Sem.run_bind,run_underlying hu,Result.andThen,ai hi,hsz,hs,ne_eq,not_false_eq_true,if_true];unfold sameAddr;by_cases hbb:b=b'
 ·subst hbb
  have hii:i=i':=by
   obtain⟨x1,g1⟩:=wh hl;obtain⟨x2,g2⟩:=wh hl';exact R.inj i i' _ _ b p p' g1 g2 hb hb'
  subst hii;rw[hb] at hb';injection hb' with hb';injection hb' with _ hp;subst hp
  simp only[beq_self_eq_true,if_true,Sem.run_pure,Bool.true_and];congr 1;rw[Bool.eq_iff_iff];simp
 ·have hii:(i == i')=false:=by
   rw[beq_eq_false_iff_ne];rintro rfl;rw[hb] at hb';injection hb' with hb';injection hb' with hp _;exact hbb hp
  have hne:(b == b')=false:=by rw[beq_eq_false_iff_ne];exact hbb
  simp only[hne,Bool.false_eq_true,if_false,Sem.run_bind,run_frozen,kf,kf',Result.andThen,Bool.false_and,noView,viewAt,run_shape,ks,ks',Option.isSome_some,if_true,Sem.run_pure,Option.isSome_none,
   mayBeOne,stringish,hii,Bool.or_self]
theorem F6 {es:List (D×D)}{l:List MapEntry}(he:ES c es l):∀ (j:Nat) (k x:D),es[j]?=some (k,x)->∃ e,l[j]?=some e∧V c k e.key∧V c x e.val:=by
 induction es generalizing l with
 | nil=>intro j k x hj;simp at hj
 | cons p es ih=>
  obtain⟨k0,x0⟩:=p;obtain⟨e,l',rfl,h1,h2,h3⟩:=he;intro j k x hj;cases j with
  | zero=>simp at hj;obtain⟨rfl,rfl⟩:=hj;exact⟨e,rfl,h1,h2⟩
  | succ j=>simp at hj;simpa using ih h3 j k x hj
theorem xA {ka:eH}{k:D}{y:Value}(hu:oH ti ka k=true) (hk:V c k y) (hp:∀ i o,k≠.ptr i o) (ha:∀ as,k≠.agg as):∀ {es:List (D×D)}{l:List MapEntry}{i:Nat}{r:Option (Nat×D)},ES c es l->bo h k es i=some r ->
  (r=none∧Instr.findNow ka.u y l i=some none)∨∃ j x v,r=some (j,x)∧Instr.findNow ka.u y l i=some (some (j,v))∧V c x v
 | [],l,i,r,he,hf=>by
  simp only[ES] at he;subst he;simp only[bo,kA] at hf;subst hf;exact .inl ⟨rfl,rfl⟩
 | (k0,x0)::es,l,i,r,he,hf=>by
  obtain⟨e,l',rfl,h1,h2,h3⟩:=he;simp only[bo] at hf;split at hf
  ·rename_i hs;simp only[kA] at hf;subst hf;exact .inr ⟨i,x0,e.val,rfl,by simp[Instr.findNow,j8 hu hs hk h1 hp ha],h2⟩
  ·rename_i hs;rcases xA hu hk hp ha h3 hf with⟨he,hb⟩|⟨j,x,v,he,hb,hc⟩
   ·exact .inl ⟨he,by simp[Instr.findNow,j8 hu hs hk h1 hp ha,hb]⟩
   ·exact .inr ⟨j,x,v,he,by simp[Instr.findNow,j8 hu hs hk h1 hp ha,hb],hc⟩
  ·simp at hf
theorem ew {t:TypeId}{k:D}{y:Value}(hkey:∀ k0 y0 q,V c k0 y0->az h k k0=some q->(Op.equal t y y0).run P c.w=.ok q c.w) :
  ∀ {es:List (D×D)} {l:List MapEntry} {i:Nat} {r:Option (Nat×D)},ES c es l->bo h k es i=some r ->
  (r=none∧(Instr.findAsking t y l i).run P c.w=.ok none c.w)∨∃ j x v,r=some (j,x)∧(Instr.findAsking t y l i).run P c.w=.ok (some (j,v)) c.w∧V c x v
 | [],l,i,r,he,hf=>by
  simp only[ES] at he;subst he;simp only[bo,kA] at hf;subst hf;exact .inl ⟨rfl,rfl⟩
 | (k0,x0)::es,l,i,r,he,hf=>by
  obtain⟨e',l',rfl,h1,h2,h3⟩:=he;simp only[bo] at hf;split at hf
  ·rename_i hs';simp only[kA] at hf;subst hf;exact .inr ⟨i,x0,e'.val,rfl,by simp[Instr.findAsking,hkey _ _ _ h1 hs'],h2⟩
  ·rename_i hs';rcases ew hkey h3 hf with⟨ha,hb⟩|⟨j,x,v,ha,hb,hc⟩
   ·exact .inl ⟨ha,by simp[Instr.findAsking,hkey _ _ _ h1 hs',hb]⟩
   ·exact .inr ⟨j,x,v,ha,by simp[Instr.findAsking,hkey _ _ _ h1 hs',hb],hc⟩
  ·simp at hf
theorem mH {t:TypeId}{u:TypeDesc}(hu:P.underlying t=some u){a b:D}{x y:Value}{p:Bool}(hk:cN u a=true) (h1:V c a x) (h2:V c b y) (hs:c5 a b=some p) (n:Nat):(Op.equalIn (n+1) t x y).run P c.w=.ok p c.w:=by
 unfold cN at hk;split at hk
 ·cases b<;>simp only[c5,reduceCtorEq,kA] at hs;simp only[V] at h1 h2;subst h1;subst h2;simp only[Op.equalIn,Sem.run_bind,run_underlying hu,Result.andThen,Sem.run_pure,nZ,hs]
 ·cases b with
  | v z=>
   cases z with
   | int q' n'=>
    simp only[c5] at hs;split at hs
    ·rename_i hkk;simp only[kA] at hs;simp only[V] at h1 h2;obtain⟨_,rfl⟩:=h1;obtain⟨_,rfl⟩:=h2;simp only[Op.equalIn,Sem.run_bind,run_underlying hu,Result.andThen,hkk,if_true,Sem.run_pure,hs]
    ·simp at hs
   | _=>simp[c5] at hs
  | _=>simp[c5] at hs
 ·simp at hk
theorem mL {t:TypeId}{u:TypeDesc}(hu:P.underlying t=some u){a:D}{x:Value}(hk:cN u a=true) (h1:V c a x) (b:Bool) (n:Nat):(Instr.checkKey b (n+1) t x).run P c.w=.ok () c.w:=by
 unfold cN at hk;split at hk
 ·simp only[V] at h1;subst h1;simp[Instr.checkKey,run_underlying hu]
 ·simp only[V] at h1;obtain⟨_,rfl⟩:=h1;simp[Instr.checkKey,run_underlying hu]
 ·simp at hk
theorem D6 {u:TypeDesc}{a:D}(hk:cN u a=true):sD u=false:=by
 unfold cN at hk;split at hk<;>first|rfl|simp at hk
theorem dX {t:TypeId}{u:TypeDesc}(hu:P.underlying t=some u){a:D}(hk:cN u a=true){cs:Array Value}{i:Nat}{x:Value}(hx:cs[i]?=some x) (w:World):(part t cs i).run P w=.ok x w:=by
 unfold part;simp[Sem.run_bind,lH hu,Result.andThen,D6 hk,hx]
theorem oz (T:TOk P ti){fs:List Field}{as:List D}(hk:nH ti fs as=true):∃ f g a b u v,fs=[f,g]∧as=[a,b]∧f.name ≠ "_" ∧ g.name ≠ "_" ∧ f.offset=0∧g.offset=1 ∧
  P.underlying f.type=some u∧P.underlying g.type=some v∧cN u a=true∧cN v b=true:=by
 unfold nH at hk;split at hk
 ·rename_i f g a b;simp only[kC] at hk;obtain⟨⟨⟨⟨h1,h2⟩,h3⟩,h4⟩,h5⟩:=hk;split at h5
  ·rename_i x y hx hy;simp only[kC] at h5;exact⟨f,g,a,b,x.u,y.u,rfl,rfl,by simpa using h1,by simpa using h2,Nat.eq_of_beq_eq_true h3,Nat.eq_of_beq_eq_true h4,(T.ok _ _ hx).1,(T.ok _ _ hy).1,h5.1,h5.2⟩
  ·cases h5
 ·cases hk
theorem y6 (T:TOk P ti){t:TypeId}{fs:Array Field}(hu:P.underlying t=some (.struct fs)) (hh:P.stoodInHeld t=false){as bs:List D}{y y':Value}{q:Bool}(hk:nH ti fs.toList as=true)
  (h1:V c (.agg as) y) (h2:V c (.agg bs) y') (hs:f9 as bs=some q):(Op.equal t y y').run P c.w=.ok q c.w:=by
 obtain⟨f,g,a,b,u,v,hf,rfl,n1,n2,o1,o2,u1,u2,k1,k2⟩:=oz T hk
 replace hs:iX [a,b] bs=some q:=hs
 unfold iX at hs;split at hs
 ·rename_i a0 b0 a' b' e;simp only[List.cons.injEq,and_true] at e;obtain⟨rfl,rfl⟩:=e;split at hs
  ·rename_i p r hp hr;simp only[kA] at hs;subst hs;simp only[V] at h1 h2;obtain⟨ys,rfl,hys⟩:=h1;obtain⟨zs,rfl,hzs⟩:=h2;obtain⟨x1,_,rfl,v1,hys⟩:=hys.inv;obtain⟨x2,_,rfl,v2,hys⟩:=hys.inv;simp only[VS] at hys;subst hys;obtain⟨z1,_,rfl,w1,hzs⟩:=hzs.inv;obtain⟨z2,_,rfl,w2,hzs⟩:=hzs.inv;simp only[VS] at hzs;subst hzs;have hfo:P.fieldsOf t=fs:=by simp[Program.fieldsOf,hu]
   unfold Op.equal Op.maxDepth;rw[show(10000:Nat)=9999+1 from rfl,run_equalIn_struct c.w 9999 t _ _ (by rw[hfo];exact hu) hh,hfo,hf];have e1:∀ w,(part f.type [x1,x2].toArray f.offset).run P w=.ok x1 w:=dX u1 k1 (by rw[o1];rfl);have e2:∀ w,(part g.type [x1,x2].toArray g.offset).run P w=.ok x2 w:=dX u2 k2 (by rw[o2];rfl);have e3:∀ w,(part f.type [z1,z2].toArray f.offset).run P w=.ok z1 w:=dX u1 k1 (by rw[o1];rfl);have e4:∀ w,(part g.type [z1,z2].toArray g.offset).run P w=.ok z2 w:=dX u2 k2 (by rw[o2];rfl);have e5:=mH u1 k1 v1 w1 hp 9998;have e6:=mH u2 k2 v2 w2 hr 9998;simp only[Op.eqFields,n1,n2,ne_eq,not_false_eq_true,if_true,Sem.run_bind,e1,e3,e5,Result.andThen];cases p<;>cases r<;>simp[e2,e4,e6]
  ·cases hs
 ·cases hs
theorem zH (T:TOk P ti){t:TypeId}{fs:Array Field}(hu:P.underlying t=some (.struct fs)){as:List D}{y:Value}(hk:nH ti fs.toList as=true) (h1:V c (.agg as) y) (b:Bool) :
  (Instr.checkKey b 10000 t y).run P c.w=.ok () c.w:=by
 obtain⟨f,g,d,e,u,v,hf,rfl,n1,n2,o1,o2,u1,u2,k1,k2⟩:=oz T hk;simp only[V] at h1;obtain⟨ys,rfl,hys⟩:=h1;obtain⟨x1,_,rfl,v1,hys⟩:=hys.inv;obtain⟨x2,_,rfl,v2,hys⟩:=hys.inv;simp only[VS] at hys;subst hys;have e1:∀ w,(part f.type [x1,x2].toArray f.offset).run P w=.ok x1 w:=dX u1 k1 (by rw[o1];rfl);have e2:∀ w,(part g.type [x1,x2].toArray g.offset).run P w=.ok x2 w:=dX u2 k2 (by rw[o2];rfl);have e5:=mL u1 k1 v1 b 9998;have e6:=mL u2 k2 v2 b 9998;rw[show(10000:Nat)=9999+1 from rfl,Instr.checkKey];simp only[Sem.run_bind,run_underlying hu,Result.andThen];rw[<-Array.forIn_toList,hf];simp[n1,n2,e1,e2,e5,e6]
theorem la {as bs:List D}{q:Bool}(h:f9 as bs=some q):b7 as bs=some q:=by
 unfold f9 at h;split at h
 ·exact h
 ·unfold iX at h;split at h
  ·split at h
   ·rename_i p r hp hr;simp only[kA] at h;subst h;simp only[b7,hp,hr,Bool.and_true]
   ·cases h
  ·cases h
theorem un {e:TypeId}{i:TypeInfo}(hi:P.info? e=some i):P.cellsOf e=i.size:=by simp[Program.cellsOf,hi]
theorem lk {e:TypeId}{u:TypeDesc}(hu:P.underlying e=some u) (d:Nat){ys zs:List Value}:∀ (as bs:List D) (k:Nat) (q:Bool),VS c as (ys.drop k)->VS c bs (zs.drop k)->as.all (cN u)=true->b7 as bs=some q ->
  (Op.eqItems (d+1) e 1 ys.toArray zs.toArray (List.range' k as.length)).run P c.w=.ok q c.w
 | [],bs,k,q,_,_,_,hs=>by
  cases bs with
  | nil=>simp only[b7,kA] at hs;subst hs;simp[Op.eqItems]
  | cons b bs=>simp[b7] at hs
 | a::as,[],k,q,_,_,_,hs=>by simp[b7] at hs
 | a::as,b::bs,k,q,h1,h2,hk,hs=>by
  simp only[b7] at hs;split at hs
  ·rename_i p r hp hr;simp only[kA] at hs;subst hs;simp only[List.all_cons,kC] at hk;obtain⟨x,xs,ex,vx,hxs⟩:=h1.inv;obtain⟨z,zs',ez,vz,hzs⟩:=h2.inv;have gx:ys[k]?=some x:=by have:=congrArg (·[0]?) ex;simpa using this
   have gz:zs[k]?=some z:=by have:=congrArg (·[0]?) ez;simpa using this
   have dx:ys.drop (k+1)=xs:=by rw[<-List.drop_drop,ex];rfl
   have dz:zs.drop (k+1)=zs':=by rw[<-List.drop_drop,ez];rfl
   have bz:cN u b=true∨True:=.inr trivial;have e1:∀ w,(part e ys.toArray (k*1)).run P w=.ok x w:=dX hu hk.1 (by rw[Nat.mul_one];simpa using gx);have e2:∀ w,(part e zs.toArray (k*1)).run P w=.ok z w:=dX hu hk.1 (by rw[Nat.mul_one];simpa using gz);have e3:=mH hu hk.1 vx vz hp d;have ih:=lk hu d as bs (k+1) r (dx▸hxs) (dz▸hzs) hk.2 hr;simp only[kO,List.range'_succ,Op.eqItems,Sem.run_bind,e1,e2,e3,Result.andThen];cases p
   ·simp
   ·simpa using ih
  ·cases hs
theorem xG (T:TOk P ti){t e:TypeId}{n:Nat}(hu:P.underlying t=some (.array n e)){ei:eH}(hei:ti e=some ei) (hsz:ei.size=1){as bs:List D}{y y':Value}{q:Bool}(hn:as.length=n) (hk:as.all (cN ei.u)=true)
  (h1:V c (.agg as) y) (h2:V c (.agg bs) y') (hs:f9 as bs=some q):(Op.equal t y y').run P c.w=.ok q c.w:=by
 obtain⟨hue,i,z,hi,hz,_⟩:=T.ok e ei hei;simp only[V] at h1 h2;obtain⟨ys,rfl,hys⟩:=h1;obtain⟨zs,rfl,hzs⟩:=h2;unfold Op.equal Op.maxDepth;rw[show(10000:Nat)=9998+1+1 from rfl,run_equalIn_array c.w (9998+1) ys.toArray zs.toArray hu hi,un hi,hz,hsz,List.range_eq_range',<-hn];exact lk hue 9998 as bs 0 q hys hzs hk (la hs)
theorem xZ (T:TOk P ti){t e:TypeId}{n:Nat}(hu:P.underlying t=some (.array n e)){ei:eH}(hei:ti e=some ei) (hsz:ei.size=1){as:List D}{y:Value}(hn:as.length=n) (hk:as.all (cN ei.u)=true) (h1:V c (.agg as) y) (b:Bool) :
  (Instr.checkKey b 10000 t y).run P c.w=.ok () c.w:=by
 obtain⟨hue,i,z,hi,hz,_⟩:=T.ok e ei hei;simp only[V] at h1;obtain⟨ys,rfl,hys⟩:=h1
 have key:∀ (as:List D) (k:Nat),VS c as (ys.drop k)->as.all (cN ei.u)=true->∀ w,w=c.w ->
   (forIn (List.range' k as.length) PUnit.unit (λj _=>do Instr.checkKey b 9999 e (<-part e ys.toArray (j*(<-sizeOf e)));pure (ForInStep.yield PUnit.unit)):Sem PUnit).run P w=.ok PUnit.unit w:=by
  intro as
  induction as with
  | nil=>intro k _ _ w _;simp
  | cons a as ih=>
   intro k h1 hk w hw;simp only[List.all_cons,kC] at hk;obtain⟨x,xs,ex,vx,hxs⟩:=h1.inv;have gx:ys[k]?=some x:=by have:=congrArg (·[0]?) ex;simpa using this
   have dx:ys.drop (k+1)=xs:=by rw[<-List.drop_drop,ex];rfl
   have e1:∀ w,(part e ys.toArray (k*1)).run P w=.ok x w:=dX hue hk.1 (by rw[Nat.mul_one];simpa using gx);subst hw;have e2:=mL hue hk.1 vx b 9998;have ih:=ih (k+1) (dx▸hxs) hk.2 c.w rfl;have hs1:i.size=1:=hz.trans hsz;simp only[kO,List.range'_succ,List.forIn_cons,Sem.run_bind,ai hi,hs1,e1,e2,Result.andThen,Sem.run_pure];exact ih
 rw[show(10000:Nat)=9999+1 from rfl,Instr.checkKey];simp only[Sem.run_bind,run_underlying hu,Result.andThen,Std.Legacy.Range.forIn_eq_forIn_range',Std.Legacy.Range.size,Nat.sub_zero,Nat.add_one_sub_one,Nat.div_one];have:=key as 0 hys hk c.w rfl
 rw[hn] at this;rw[this];rfl
theorem fV (T:TOk P ti) (R:Rel c h){kt:TypeId}{ka:eH}(hkt:ti kt=some ka){k:D}{y:Value}(hu:oH ti ka k=true) (hk:V c k y){es:List (D×D)}{l:List MapEntry}{r:Option (Nat×D)}
  (he:ES c es l) (hf:bo h k es 0=some r) :
  (∀ b,(Instr.checkKey b 10000 kt y).run P c.w=.ok () c.w) ∧
  ((r=none∧(Instr.findKey kt y l).run P c.w=.ok none c.w)∨∃ j x v,r=some (j,x)∧(Instr.findKey kt y l).run P c.w=.ok (some (j,v)) c.w∧V c x v):=by
 obtain⟨hund,_⟩:=T.ok kt ka hkt;have hund':=hund;refine⟨λb=>?_,?_⟩
 ·unfold oH at hu;unfold Instr.checkKey;split at hu
  ·rename_i hA;rw[hA] at hund;simp only[V] at hk;subst hk;simp[run_underlying hund]
  ·rename_i hA;rw[hA] at hund;simp only[V] at hk;obtain⟨_,rfl⟩:=hk;simp[run_underlying hund]
  ·rename_i hA;rw[hA] at hund;simp only[V] at hk;obtain⟨_,_,_,rfl⟩:=hk;simp[run_underlying hund]
  ·rename_i hA;rw[hA] at hund;simp only[kC] at hu;exact zH T hund hu.2 hk b
  ·rename_i hA;rw[hA] at hund;split at hu
   ·rename_i ei hei;simp only[kC] at hu;exact xZ T hund hei (Nat.eq_of_beq_eq_true hu.1.1) (Nat.eq_of_beq_eq_true hu.1.2) hu.2 hk b
   ·cases hu
  ·simp at hu
 ·by_cases hp:∃ i o,k=.ptr i o
  ·obtain⟨i,o,rfl⟩:=hp;have hu':=hu;unfold oH at hu;split at hu
   ·cases ‹D.ptr i o=D.str _›
   ·cases ‹D.ptr i o=D.v _›
   ·rename_i e _ _ hA _;rw[hA] at hund;split at hu
    ·rename_i xi hxi;have hs:xi.size≠0:=by simpa using hu
     have hkey:∀ k0 y0 q,V c k0 y0->az h (.ptr i o) k0=some q->(Op.equal kt y y0).run P c.w=.ok q c.w:=λk0 y0 q h1 hq=>by
      cases k0<;>simp only[az,reduceCtorEq] at hq;rename_i a' o';split at hq
      ·rename_i hl;simp only[kA] at hq;subst hq;simp only[kC] at hl;exact B9 T R hund hxi hs hk h1 hl.1 hl.2
      ·simp at hq
     have:=ew hkey he hf
     cases l with
     | nil=>
      cases es with
      | nil=>
       simp only[bo,kA] at hf;subst hf;exact .inl ⟨rfl,by simp[Instr.findKey,run_underlying hund,Instr.findNow]⟩
      | cons p es=>obtain⟨_,_,hh,_⟩:=he;cases hh
     | cons e0 l=>
      have hnow:Instr.findNow (.pointer e) y (e0::l) 0=none:=by simp[Instr.findNow,Instr.sameNow]
      simpa [Instr.findKey,run_underlying hund,hnow] using this
    ·simp at hu
   ·cases ‹D.ptr i o=D.agg _›
   ·cases ‹D.ptr i o=D.agg _›
   ·simp at hu
  ·by_cases hag:∃ as,k=.agg as
   ·obtain⟨as,rfl⟩:=hag;have hu':=hu;unfold oH at hu;split at hu
    ·cases ‹D.agg as=D.str _›
    ·cases ‹D.agg as=D.v _›
    ·cases ‹D.agg as=D.ptr _ _›
    ·rename_i fs as' hA e;injection e with e;subst e
     rw[hA] at hund;simp only[kC,Bool.not_eq_true'] at hu;have hheld:P.stoodInHeld kt=false:=by rw[<-T.held kt ka hkt];exact hu.1
     have hkey:∀ k0 y0 q,V c k0 y0->az h (.agg as) k0=some q->(Op.equal kt y y0).run P c.w=.ok q c.w:=λk0 y0 q h1 hq=>by
      cases k0<;>simp only[az,reduceCtorEq] at hq;exact y6 T hund hheld hu.2 hk h1 hq
     have:=ew hkey he hf
     cases l with
     | nil=>
      cases es with
      | nil=>
       simp only[bo,kA] at hf;subst hf;exact .inl ⟨rfl,by simp[Instr.findKey,run_underlying hund,Instr.findNow]⟩
      | cons p es=>obtain⟨_,_,hh,_⟩:=he;cases hh
     | cons e0 l=>
      have hnow:Instr.findNow (.struct fs) y (e0::l) 0=none:=by simp[Instr.findNow,Instr.sameNow]
      simpa [Instr.findKey,run_underlying hund,hnow] using this
    ·rename_i n e as' hA ee;injection ee with ee;subst ee
     rw[hA] at hund;split at hu
     ·rename_i ei hei;simp only[kC] at hu
      have hkey:∀ k0 y0 q,V c k0 y0->az h (.agg as) k0=some q->(Op.equal kt y y0).run P c.w=.ok q c.w:=λk0 y0 q h1 hq=>by
       cases k0<;>simp only[az,reduceCtorEq] at hq;exact xG T hund hei (Nat.eq_of_beq_eq_true hu.1.1) (Nat.eq_of_beq_eq_true hu.1.2) hu.2 hk h1 hq
      have:=ew hkey he hf
      cases l with
      | nil=>
       cases es with
       | nil=>
        simp only[bo,kA] at hf;subst hf;exact .inl ⟨rfl,by simp[Instr.findKey,run_underlying hund,Instr.findNow]⟩
       | cons p es=>obtain⟨_,_,hh,_⟩:=he;cases hh
      | cons e0 l=>
       have hnow:Instr.findNow (.array n e) y (e0::l) 0=none:=by simp[Instr.findNow,Instr.sameNow]
       simpa [Instr.findKey,run_underlying hund,hnow] using this
     ·cases hu
    ·simp at hu
   have ha':∀ as,k≠.agg as:=λas e=>hag ⟨as,e⟩
   have hp':∀ i o,k≠.ptr i o:=λi o e=>hp ⟨i,o,e⟩
   rcases xA hu hk hp' ha' he hf with⟨ha,hb⟩|⟨j,x,v,ha,hb,hc⟩
   ·exact .inl ⟨ha,by simp[Instr.findKey,run_underlying hund,hb]⟩
   ·exact .inr ⟨j,x,v,ha,by simp[Instr.findKey,run_underlying hund,hb],hc⟩
theorem cR {t:TypeId}{i:TypeInfo}{z:Value}(hi:P.info? t=some i) (hz:i.zero=some z) (w:World):(zeroValue t).run P w=.ok z w:=by
 simp[zeroValue,typeInfo,hi,hz]
theorem wV (R:Rel c h){dm:D}{vm:Value}{es:List (D×D)}(hes:nC h dm=some es) (hm:V c dm vm) :
  ∃ arr:Array MapEntry,ES c es arr.toList∧((vm=.map none∧arr = #[])∨∃ r clock,vm=.map (some r)∧c.w.heap[r]?=some (.map arr clock)):=by
 unfold nC at hes;split at hes
 ·simp only[kA] at hes;subst hes;simp only[V] at hm;obtain⟨_,rfl⟩:=hm;exact⟨#[],by simp[ES],.inl ⟨rfl,rfl⟩⟩
 ·rename_i id;split at hes
  ·rename_i es' hg;simp only[kA] at hes;subst hes;simp only[V] at hm;obtain⟨b,hφ,rfl⟩:=hm;obtain⟨b',o,h1,_,h2,arr,clock,h3,h4,_⟩:=R.live id _ hg;rw[hφ] at h1;injection h1 with h1;injection h1 with e1 e2;subst e1
   exact⟨arr,h4,.inr ⟨b,clock,rfl,h3⟩⟩
  ·simp at hes
 ·simp at hes
theorem nD (T:TOk P ti) (R:Rel c h){t:TypeId}{dm dk d:D}{ok:Bool}{vm vk:Value}(hd:fZ ti h t dm dk ok=some d) (hm:V c dm vm) (hk:V c dk vk) :
  ∃ v,(Instr.lookup t vm vk ok).run P c.w=.ok v c.w∧V c d v:=by
 unfold fZ at hd;split at hd
 ·rename_i a ha;obtain⟨hu,_⟩:=T.ok t a ha;split at hd
  ·rename_i kt e he;rw[he] at hu;split at hd
   ·rename_i ka ea es hka hea hes;obtain⟨_,ie,z,hie,_,_,hz,_,hz2,_⟩:=T.ok e ea hea;have hzv:V c ea.zeroD z:=bY c z _ hz2;split at hd
    ·rename_i hkey;obtain⟨arr,hES,hrun⟩:=wV R hes hm;split at hd
     ·rename_i j x hf;simp only[kA] at hd;subst hd;obtain⟨hck,⟨h0,_⟩|⟨j',x',v,h1,h2,h3⟩⟩:=fV T R hka hkey hk hES hf
      ·cases h0
      ·simp only[kA,kB] at h1;obtain⟨rfl,rfl⟩:=h1
       have hrun':(Instr.lookup t vm vk ok).run P c.w=.ok (if ok then .tuple #[v,.bool true] else v) c.w:=by
        unfold Instr.lookup;rcases hrun with⟨rfl,rfl⟩|⟨r,clock,rfl,hr⟩
        ·simp only[Sem.run_bind,run_underlying hu,Result.andThen,hck,h2,Sem.run_pure]
        ·simp only[Sem.run_bind,run_underlying hu,Result.andThen,MapKept.run_getObj_map hr,hck,h2,Sem.run_pure]
       refine⟨_,hrun',?_⟩;cases ok
       ·exact h3
       ·simp only[if_true,V];exact⟨[v,.bool true],rfl,VS.cons h3 (VS.cons (by simp[V,c7]) VS.nil)⟩
     ·rename_i hf;simp only[kA] at hd;subst hd;obtain⟨hck,⟨_,h2⟩|⟨j',x',v,h1,_⟩⟩:=fV T R hka hkey hk hES hf
      ·have hrun':(Instr.lookup t vm vk ok).run P c.w=.ok (if ok then .tuple #[z,.bool false] else z) c.w:=by
        unfold Instr.lookup;rcases hrun with⟨rfl,rfl⟩|⟨r,clock,rfl,hr⟩
        ·simp only[Sem.run_bind,run_underlying hu,Result.andThen,hck,h2,Sem.run_pure,cR hie hz]
        ·simp only[Sem.run_bind,run_underlying hu,Result.andThen,MapKept.run_getObj_map hr,hck,h2,Sem.run_pure,cR hie hz]
       refine⟨_,hrun',?_⟩;cases ok
       ·exact hzv
       ·simp only[if_true,V];exact⟨[z,.bool false],rfl,VS.cons hzv (VS.cons (by simp[V,c7]) VS.nil)⟩
      ·cases h1
     ·simp at hd
    ·simp at hd
   ·simp at hd
  ·simp at hd
 ·simp at hd
end
end Go.Am
/-
 The abstract machine,part 6: operations that write or make memory: stores,new variables,composite literals,make,append,copy,maps.
-/
namespace Go.Am
variable [GT]
section
variable {P:Program}{ti:TI}{c:Ctx}{h:aB}
theorem BW {d:D}{y:Value}(ho:one d=true) (hv:V c d y):y.oneCell'=true:=by
 cases d with
 | agg cs=>simp[one] at ho
 | tup cs=>simp[one] at ho
 | any=>simp[one] at ho
 | v x=>simp only[V] at hv;obtain⟨h1,rfl⟩:=hv;cases y<;>simp[c7] at h1<;>rfl
 | str s=>simp only[V] at hv;subst hv;rfl
 | imm n cs=>simp only[V] at hv;obtain⟨_,_,_,rfl,_⟩:=hv;rfl
 | iptr cs=>simp only[V] at hv;obtain⟨_,_,_,rfl,_⟩:=hv;rfl
 | sl id off n cap es ex=>simp only[V] at hv;obtain⟨_,_,_,_,_,_,rfl,_⟩:=hv;rfl
 | ptr id off=>simp only[V] at hv;obtain⟨_,_,_,rfl⟩:=hv;rfl
 | fn f a b=>simp only[V] at hv;obtain⟨_,_,rfl,_⟩:=hv;rfl
 | map id=>simp only[V] at hv;obtain⟨_,_,rfl⟩:=hv;rfl
 | iface t d=>simp only[V] at hv;obtain⟨_,rfl,_⟩:=hv;rfl
 | e0=>simp only[V] at hv;obtain⟨_,rfl⟩:=hv;rfl
 | yf id=>simp only[V] at hv;obtain⟨_,_,rfl⟩:=hv;rfl
 | zs b=>simp only[V] at hv;obtain⟨_,_,rfl,_⟩:=hv;rfl
theorem mA:∀ {ds:List D}{ys:List Value},gW ds=true->VS c ds ys->∀ y∈ys,y.oneCell'=true
 | [],ys,_,hv,y,hy=>by simp only[VS] at hv;subst hv;cases hy
 | d::ds,ys,ho,hv,y,hy=>by
  obtain⟨y0,ys',rfl,h1,h2⟩:=hv.inv;simp only[gW,kC] at ho;rcases List.mem_cons.1 hy with rfl|hy
  ·exact BW ho.1 h1
  ·exact mA ho.2 h2 y hy
theorem sL {w:World}{b p:Nat}{a:Array Value}{e:TypeId}{vs:List Value}(hb:w.heap[b]?=some (.cells a e (0,0))) (hl:p+vs.length<=a.size) (h1:∀ v∈vs,v.oneCell'=true) :
  ∃ (w':World) (a':Array Value),(storeCells ⟨b,p,none⟩ vs).run P w=.ok () w'∧w'.os=w.os∧Tp w' w∧w'.output=w.output∧w'.heap.size=w.heap.size∧(∀ k,k≠b->w'.heap[k]?=w.heap[k]?) ∧
   w'.heap[b]?=some (.cells a' e (0,0))∧a'.toList=a.toList.take p++vs++a.toList.drop (p+vs.length)∧a'.size=a.size:=by
 have hr:=run_storeCells_at P b p e vs 0 a w hb (by simpa using hl) h1;simp only[Nat.add_zero] at hr;refine⟨_,_,hr,rfl,⟨rfl,kP _⟩,rfl,by simp[World.setRow],λk hk=>setRow_other w b k _ hk,setRow_heap w b a _ e _ hb,by simp,?_⟩;simp;omega
theorem vb {w w':World}{b:Nat}{a a':Array Value}{e:TypeId}(h1:w.heap[b]?=some (.cells a e (0,0))) (h2:w'.heap[b]?=some (.cells a' e (0,0))) (hs:a'.size=a.size) :
  ∀ e' z,w.shape? b=some (e',z)->w'.shape? b=some (e',z):=by
 intro e' z hz;simp only[World.shape?,h1,kA,kB] at hz;simp only[World.shape?,h2,hs,kA,kB];exact hz
theorem yO {α:Type}(pre ys tl vs:List α) (off:Nat) (h:off+vs.length<=ys.length) :
  (pre++(ys++tl)).take (pre.length+off)++vs++(pre++(ys++tl)).drop (pre.length+off+vs.length)=pre++((ys.take off++vs++ys.drop (off+vs.length))++tl):=by
 rw[List.take_append,List.drop_append];have e1:pre.take (pre.length+off)=pre:=kE om;have e2:pre.drop (pre.length+off+vs.length)=[]:=List.drop_of_length_le om;have e3:pre.length+off-pre.length=off:=by omega
 have e4:pre.length+off+vs.length-pre.length=off+vs.length:=by omega
 rw[e1,e2,e3,e4,List.take_append,List.drop_append];have e5:off-ys.length=0:=by omega
 have e6:off+vs.length-ys.length=0:=by omega
 simp[e5,e6]
theorem VS.splice {ds:List D}{ys:List Value}{new:List D}{vs:List Value}(off:Nat) (h1:VS c ds ys) (h2:VS c new vs) :
  VS c (splice ds off new) (ys.take off++vs++ys.drop (off+vs.length)):=by
 unfold Am.splice;rw[<-h2.length];exact((h1.take off).append h2).append (h1.drop _)
theorem nt (R:Rel c h){id off b o:Nat}{cs:List D}{ex:Bool}(hg:h.get id=some (.cells cs ex)) (hφ:c.φ id=some (b,o)){new:List D}{vs:List Value}(hv:VS c new vs) (hl:off+new.length<=cs.length) (h1:gW new=true) :
  ∃ w',(storeCells ⟨b,o+off,none⟩ vs).run P c.w=.ok () w'∧Rel { c with w:=w' } (h.set id (.cells (splice cs off new) ex))∧aZ c h { c with w:=w' } (h.set id (.cells (splice cs off new) ex)):=by
 obtain⟨b0,o0,k1,_,a,e,pre,ys,tl,k2,k3,k4,k5,k6⟩:=R.live id _ hg;rw[hφ] at k1;injection k1 with k1;injection k1 with e1 e2;subst e1;subst e2
 have hlen:=k5.length;have hlv:=hv.length;have hsz:a.size=pre.length+(ys.length+tl.length):=by rw[<-Array.length_toList,k3];simp
 obtain⟨w',a',hr,w1,w2,w3,w4,w5,w6,w7,w8⟩:=sL (P:=P) (p:=o+off) k2 om (mA h1 hv);refine⟨w',hr,R.turn hg hφ w1 w2 w3 w4 w5 (vb k2 w6 w8) λK=>?_⟩;refine⟨a',e,pre,_,tl,w6,?_,k4,VS.splice off (VS.keep K _ _ k5) (VS.keep K _ _ hv),k6⟩;rw[w7,k3,<-k4];exact yO pre ys tl vs off om
theorem vT (T:TOk P ti) (R:Rel c h){t:TypeId}{da d:D}{va v:Value}{h':aB}(hd:iO ti h t da d=some h') (ha:V c da va) (hv:V c d v) (hna:d≠.any) :
  ∃ w',(Instr.storeAt t va v).run P c.w=.ok () w'∧Rel { c with w:=w' } h'∧aZ c h { c with w:=w' } h':=by
 unfold iO at hd;split at hd
 ·rename_i x hx;obtain⟨_,i,z,hi,hs,_⟩:=T.ok t x hx;split at hd
  ·rename_i id off;split at hd
   ·rename_i cs ex hg;split at hd
    ·rename_i hc;obtain⟨c1,c2,c3⟩:=hc;simp only[kA] at hd;subst hd;simp only[V] at ha;obtain⟨b,o,hφ,rfl⟩:=ha;have hcell:=jZ hna hv;have hlen:=hcell.length;obtain⟨w',hr,h1,h2⟩:=nt (P:=P) (off:=off) R hg hφ hcell om c3;refine⟨w',?_,h1,h2⟩;have hsz:v.cells.size=i.size:=by rw[hs,<-c1,<-hlen];simp
     simp only[Instr.storeAt,Instr.sureAddr,Sem.run_bind,Sem.run_pure,Result.andThen,storeVar,ai hi,hsz,ne_eq,not_true,if_false,hr]
    ·simp at hd
   ·simp at hd
  ·simp at hd
 ·simp at hd
def Made (P:Program) (c:Ctx) (h:aB) (id:Nat) (s:Sem Value) (d:D) (h':aB):Prop:=
 ∃ v c',s.run P c.w=.ok v c'.w∧V c' d v∧Rel c' h'∧aZ c h c' h'∧∀ j,j≠id->c'.φ j=c.φ j
theorem Made.same {id:Nat}{s:Sem Value}{d:D}(R:Rel c h) (hs:∃ v,s.run P c.w=.ok v c.w∧V c d v):Made P c h id s d h:=
 let⟨v,h1,h2⟩:=hs;⟨v,c,h1,h2,R,aZ.refl c h,λ_ _=>rfl⟩
theorem BR_new {id:Nat}{cs:List D}{ys tl:List Value}{a:Array Value}{e:TypeId}{ex:Bool}(R:Rel c h) (hf:c.φ id=none) (ha:a.toList=ys++tl) (hv:VS c cs ys) (hx:ex=true->tl=[]) :
  BR (c.push id (.cells a e)) c.w.heap.size 0 (.cells cs ex):=
 ⟨a,e,[],ys,tl,(by simp only[Ctx.push];exact Array.getElem?_push_size),by simpa using ha,rfl,VS.keep (Ctx.push_keeps R hf _) _ _ hv,hx⟩
theorem kU (c:Ctx) (id:Nat) (o:Obj):(c.push id o).φ id=some (c.w.heap.size,0):=by simp[Ctx.push]
theorem jI (c:Ctx) (id:Nat) (o:Obj) (j:Nat) (hj:j≠id):(c.push id o).φ j=c.φ j:=by simp[Ctx.push,hj]
def NB (c:Ctx) (o:Obj):Box->Prop
 | .cells cs ex=>∃ (a:Array Value) (e:TypeId) (ys tl:List Value),o=.cells a e∧a.toList=ys++tl∧VS c cs ys∧(ex=true->tl=[])
 | .map es=>o=.map #[] 0∧es=[]
 | _=>False
def New (P:Program) (c:Ctx) (id:Nat) (s:Sem Value) (d:D) (box:Box):Prop:=
 ∃ v o,s.run P c.w=.ok v (c.push id o).w∧(∀ S φ,(∀ j,φ j=(c.push id o).φ j∨j≠id)->V { S:=S,φ:=φ,w:=(c.push id o).w } d v)∧NB c o box
theorem NB.br {id:Nat}{o:Obj}{box:Box}(K:am c (c.push id o)):NB c o box->BR (c.push id o) c.w.heap.size 0 box:=by
 cases box with
 | cells cs ex=>
  rintro⟨a,e,ys,tl,rfl,h2,h3,h4⟩;exact⟨a,e,[],ys,tl,(by simp only[Ctx.push];exact Array.getElem?_push_size),by simpa using h2,rfl,VS.keep K _ _ h3,h4⟩
 | map es=>
  rintro⟨rfl,rfl⟩;exact⟨rfl,#[],0,(by simp only[Ctx.push];exact Array.getElem?_push_size),by simp[ES],by simp[StB]⟩
 | loop=>exact λh=>h.elim
 | dfr=>exact λh=>h.elim
 | iter=>exact λh=>h.elim
theorem New.made {id:Nat}{s:Sem Value}{d:D}{box:Box}(R:Rel c h) (hf:c.φ id=none) (hn:id<h.next) (hw:New P c id s d box):Made P c h id s d (h.put id box):=by
 obtain⟨v,o,h1,h2,h3⟩:=hw;obtain⟨r1,r2⟩:=R.push hf hn (h3.br (Ctx.push_keeps R hf o));exact⟨v,c.push id o,h1,h2 _ _ (λ_=>.inl rfl),r1,r2,jI c id o⟩
theorem qu (id:Nat){t:TypeId}{cs:List D}{x:Value}(hv:VS c cs x.cells.toList):New P c id (do pure (.pointer (some (<-newVar t x)))) (.ptr id 0) (.cells cs true):=by
 refine⟨.pointer (some ⟨c.w.heap.size,0,none⟩),.cells x.cells t,?_,λS φ hφ=>?_,x.cells,t,x.cells.toList,[],rfl,by simp,hv,λ_=>rfl⟩
 ·simp[newVar,newRow,Ctx.push]
 ·simp only[V];refine⟨c.w.heap.size,0,?_,rfl⟩;rcases hφ id with h|h
  ·rw[h];exact kU c id _
  ·exact absurd rfl h
theorem CS (T:TOk P ti) (id:Nat){t:TypeId}{x:eH}(hx:ti t=some x):New P c id (Instr.alloc t true (.tuple #[])) (.ptr id 0) (.cells x.zero true):=by
 obtain⟨_,i,z,hi,_,_,hz,hzc,_⟩:=T.ok t x hx;have hv:VS c x.zero z.cells.toList:=d9 c _ _ hzc;obtain⟨v,o,h1,h2⟩:=qu (P:=P) (t:=t) id hv;refine⟨v,o,?_,h2⟩;simpa [Instr.alloc,cR hi hz] using h1
theorem Gt (id:Nat){t:TypeId}{d:D}{v:Value}(hv:V c d v) (hna:d≠.any):New P c id (Instr.box t v) (.ptr id 0) (.cells (cU d) true):=qu id (jZ hna hv)
theorem sx:∀ (vs:List Value) (k off:Nat) (cs:Array Value),off+k+vs.length<=cs.size ->
  ((vs.zipIdx k).foldl (λ(cs:Array Value) (p:Value×Nat)=>cs.setIfInBounds (off+p.2) p.1) cs).toList=cs.toList.take (off+k)++vs++cs.toList.drop (off+k+vs.length)
 | [],k,off,cs,_=>by simp
 | v::vs,k,off,cs,hl=>by
  simp only[List.zipIdx_cons,List.foldl_cons];rw[sx vs (k+1) off _ (by simp at hl ⊢;omega)];have hk:off+k<cs.size:=by simp at hl;omega
  simp only[Array.toList_setIfInBounds];have e:=list_seg_step cs.toList (off+k) v vs (by simp at hl ⊢;omega);simpa [Nat.add_assoc] using e
def PS (c:Ctx):List (Nat×D)->List (Nat×Value)->Prop
 | [],l=>l=[]
 | (i,d)::ps,l=>∃ v l',l=(i,v)::l'∧d≠.any∧V c d v∧PS c ps l'
theorem jT {aw:Nat->Option (Nat×Nat)}:∀ {ps:List (Nat×D)}{vps:List (Nat×Value)}{cs:List D}{ys:List Value}{r:List D},PS c ps vps->VS c cs ys->lj aw cs ps=some r ->
  ∃ zs,Instr.fill aw ys.toArray vps=some zs.toArray∧VS c r zs
 | [],vps,cs,ys,r,hp,hv,hf=>by
  simp only[PS] at hp;subst hp;simp only[lj,kA] at hf;subst hf;exact⟨ys,rfl,hv⟩
 | (i,d)::ps,vps,cs,ys,r,hp,hv,hf=>by
  obtain⟨v,vps,rfl,hna,hvd,h2⟩:=hp;simp only[lj] at hf;split at hf
  ·simp at hf
  ·rename_i off size hpl;split at hf
   ·rename_i hc;have hcell:=jZ hna hvd;have hl:=hcell.length;have hly:=hv.length;have hsz:v.cells.size=size:=by rw[<-hc.1,<-hl];simp
    have hspl:VS c (splice cs off (cU d)) (ys.take off++v.cells.toList++ys.drop (off+v.cells.toList.length)):=VS.splice off hv hcell;obtain⟨zs,h3,h4⟩:=jT h2 hspl hf;refine⟨zs,?_,h4⟩;simp only[Instr.fill,hpl];have hcond:(decide (v.cells.size≠size) || decide (off+v.cells.size > ys.toArray.size))=false:=by simp;omega
    rw[if_neg (by simpa using hcond)];rw[<-h3];congr 1;apply Array.ext';have:=sx v.cells.toList 0 off ys.toArray (by simp;omega)
    rw[<-Array.foldl_toList,Array.toList_zipIdx];simpa using this
   ·simp at hf
theorem hZ {tmps:List D}{a:Act}(hI:GT.inv c) (ht:VS c tmps a.tmps.toList):∀ {ps:List (Nat×Operand)}{l:List (Nat×D)},gU tmps ps=some l->PS c l (ps.map λ(i,x)=>(i,a.eval x))
 | [],l,hp=>by simp only[gU,kA] at hp;subst hp;simp[PS]
 | (i,x)::ps,l,hp=>by
  simp only[gU] at hp;split at hp
  ·rename_i d ds h1 h2;simp only[kA] at hp;subst hp;exact⟨_,_,rfl,EQ h1,aI hI ht h1,hZ hI ht h2⟩
  ·simp at hp
theorem nO (T:TOk P ti){w:World}:∀ {fs:List Field}{pl:List (Nat×Nat)},nP ti fs=some pl->(fs.mapM λf=>do pure (f.offset,<-sizeOf f.type):Sem (List (Nat×Nat))).run P w=.ok pl w
 | [],pl,hf=>by simp only[nP,kA] at hf;subst hf;rfl
 | f::fs,pl,hf=>by
  simp only[nP] at hf;split at hf
  ·rename_i x l h1 h2;simp only[kA] at hf;subst hf;obtain⟨_,i,z,hi,hs,_⟩:=T.ok f.type x h1;have ih:=nO (w:=w) T h2;rw[List.mapM_cons];simp only[Sem.run_bind,ai hi,Result.andThen,Sem.run_pure,ih,hs]
  ·simp at hf
theorem pA (T:TOk P ti){t:TypeId}{ps:List (Nat×D)}{vps:List (Nat×Value)}{d:D}(hp:PS c ps vps) (hd:rh ti t ps=some d) :
  ∃ v,(Instr.build t vps.toArray).run P c.w=.ok v c.w∧V c d v:=by
 unfold rh at hd;split at hd
 ·rename_i a ha;obtain⟨hu,i,z,hi,_,_,hz,hzc,_⟩:=T.ok t a ha;have hzv:VS c a.zero z.cells.toList:=d9 c _ _ hzc;split at hd
  ·rename_i fs hfs;rw[hfs] at hu;split at hd
   ·rename_i pl hpl;simp only[kJ] at hd;obtain⟨r,hr,rfl⟩:=hd;obtain⟨zs,h1,h2⟩:=jT hp hzv hr;refine⟨.agg zs.toArray,?_,by simp only[V];exact⟨zs,rfl,h2⟩⟩;have hf:=nO (P:=P) (w:=c.w) T hpl
    have hm:(fs.mapM λf=>do pure (f.offset,<-sizeOf f.type):Sem (Array (Nat×Nat))).run P c.w=.ok pl.toArray c.w:=by
     rw[Array.mapM_eq_mapM_toList];simp only[Sem.run_map];rw[hf];rfl
    have h1':Instr.fill (λx=>pl.toArray[x]?) z.cells vps=some zs.toArray:=by simpa using h1
    simp only[Instr.build,Sem.run_bind,cR hi hz,Result.andThen,run_underlying hu,hm,h1',Sem.run_pure]
   ·simp at hd
  ·rename_i n e he;rw[he] at hu;split at hd
   ·rename_i ei hei;obtain⟨_,ie,ze,hie,hse,_⟩:=T.ok e ei hei;simp only[kJ] at hd;obtain⟨r,hr,rfl⟩:=hd;obtain⟨zs,h1,h2⟩:=jT hp hzv hr;refine⟨.agg zs.toArray,?_,by simp only[V];exact⟨zs,rfl,h2⟩⟩;have h1':Instr.fill (λx=>some (x*ei.size,ei.size)) z.cells vps=some zs.toArray:=by simpa using h1
    simp only[Instr.build,Sem.run_bind,cR hi hz,Result.andThen,run_underlying hu,ai hie,hse,h1',Sem.run_pure]
   ·simp at hd
  ·simp at hd
 ·simp at hd
end
end Go.Am
/-
 The abstract machine,part 7: make,append,copy,maps written.
-/
namespace Go.Am
variable [GT]
section
variable {P:Program}{ti:TI}{c:Ctx}{h:aB}
theorem lN (z:Array Value) (s:Nat) (hs:z.size=s):∀ n,((Array.range (n*s)).map (z[· % z.size]!)).toList=(List.replicate n z.toList).flatten
 | 0=>by simp
 | n+1=>by
  have ih:=lN z s hs n;simp only[Array.toList_map,Array.toList_range] at ih ⊢;rw[List.replicate_succ,List.flatten_cons,<-ih,Nat.succ_mul,Nat.add_comm,List.range_add,List.map_append,List.map_map];congr 1
  ·apply List.ext_getElem
   ·simp[hs]
   ·intro i h1 h2;simp at h1;simp[hs,Nat.mod_eq_of_lt h1,getElem!_pos z i om]
  ·apply List.map_congr_left;intro i _;simp[hs]
theorem g9 {zs:List D}{ys:List Value}(hv:VS c zs ys):∀ n,VS c (cx zs n) (List.replicate n ys).flatten
 | 0=>by simp[cx,VS]
 | n+1=>by simpa [cx,List.replicate_succ] using hv.append (g9 hv n)
theorem lr (c:Ctx) (T:TOk P ti){e:TypeId}{x:eH}(hx:ti e=some x):∃ i z,P.info? e=some i∧i.size=x.size∧i.bytes=x.bytes∧i.zero=some z∧z.cells.size=x.size∧VS c x.zero z.cells.toList:=by
 obtain⟨_,i,z,hi,hs,hb,hz,hzc,_,hl⟩:=T.ok e x hx;refine⟨i,z,hi,hs,hb,hz,?_,d9 c _ _ hzc⟩;have:=(d9 c _ _ hzc).length
 simp at this;omega
theorem rW (T:TOk P ti){id:Nat}{t:TypeId}{len:Nat}{ps:List (Nat×D)}{vps:List (Nat×Value)}{d:D}{h':aB}(hp:PS c ps vps)
  (hd:eS ti h id t len ps=some (d,h')):∃ box,h'=h.put id box∧New P c id (Instr.buildSlice t len vps.toArray) d box:=by
 unfold eS at hd;split at hd
 ·rename_i a ha;obtain⟨hu,_⟩:=T.ok t a ha;split at hd
  ·rename_i e he;rw[he] at hu;split at hd
   ·rename_i ei hei;obtain⟨i,z,hi,hs,hb,hz,hzs,hzv⟩:=lr c T hei;split at hd
    ·rename_i hc;split at hd
     ·rename_i cs hcs;simp only[kA,kB] at hd;obtain⟨rfl,rfl⟩:=hd;obtain⟨zs,h1,h2⟩:=jT hp (g9 hzv len) hcs
      have hlen:zs.length=len*ei.size:=by
       have l1:=h2.length;have l2:=hcs
       have:∀ {ps:List (Nat×D)} {cs r:List D},lj (λi=>some (i*ei.size,ei.size)) cs ps=some r->r.length=cs.length:=by
        intro ps
        induction ps with
        | nil=>intro cs r hr;simp only[lj,kA] at hr;rw[hr]
        | cons p ps ih=>
         intro cs r hr;obtain⟨k,d⟩:=p;simp only[lj] at hr;split at hr
         ·rename_i hcc;rw[ih hr];simp[splice];omega
         ·simp at hr
       rw[l1,this l2];have hz1:ei.zero.length=ei.size:=by have:=hzv.length;simp at this;omega
       have:∀ n,(cx ei.zero n).length=n*ei.size:=by
        intro n;induction n with
        | zero=>simp[cx]
        | succ n ih=>simp[cx,ih,hz1,Nat.succ_mul,Nat.add_comm]
       exact this len
      refine⟨_,rfl,.slice (some ⟨c.w.heap.size,0,none⟩) len len,.cells zs.toArray e,?_,λS φ hφ=>?_,zs.toArray,e,zs,[],rfl,by simp,h2,λ_=>rfl⟩
      ·have n1:¬(len*i.size > 2 ^ 24):=by rw[hs];omega
       have hm:=lN z.cells ei.size hzs len;by_cases h0:len*ei.size=0
       ·have hl0:len=0:=by
         rcases Nat.mul_eq_zero.1 h0 with h|h
         ·exact h
         ·omega
        subst hl0;simp only[List.replicate_zero,List.flatten_nil] at h1;have h1':Instr.fill (λi=>some (i*ei.size,ei.size)) #[] vps=some zs.toArray:=h1;simp[Instr.buildSlice,run_underlying hu,ai hi,hs,h1',newRow,Ctx.push,Array.range_zero']
       ·have h1':Instr.fill (λi=>some (i*ei.size,ei.size)) ((Array.range (len*ei.size)).map (z.cells[· % z.cells.size]!)) vps=some zs.toArray:=by
         rw[<-h1];congr 1;apply Array.ext';rw[hm]
        have n1':¬(len*ei.size > 2 ^ 24):=by omega
        simp only[Instr.buildSlice,Sem.run_bind,run_underlying hu,Result.andThen,ai hi,hs,n1',if_false,h0,cR hi hz,Sem.run_pure,h1',newRow];rfl
      ·simp only[V];refine⟨c.w.heap.size,0,len,e,zs.length,?_,rfl,kP _,kP _,λ_=>rfl,?_,by omega⟩
       ·rcases hφ id with h|h
        ·rw[h];exact kU c id _
        ·exact absurd rfl h
       have:(c.push id (.cells zs.toArray e)).w.heap[c.w.heap.size]?=some (.cells zs.toArray e):=by simp only[Ctx.push];exact Array.getElem?_push_size
       simp[World.shape?,this]
     ·simp at hd
    ·simp at hd
   ·simp at hd
  ·simp at hd
 ·simp at hd
theorem r6 (T:TOk P ti){id:Nat}{t:TypeId}{dl dc d:D}{vl vc:Value}{h':aB}(hl:V c dl vl) (hc:V c dc vc)
  (hd:dU ti h id t dl dc=some (d,h')):∃ box,h'=h.put id box∧New P c id (Instr.makeSlice t vl vc) d box:=by
 unfold dU at hd;split at hd
 ·rename_i a ha;obtain⟨hu,_⟩:=T.ok t a ha;split at hd
  ·rename_i e he;rw[he] at hu;split at hd
   ·rename_i ei n m hei h1 h2;obtain⟨i,z,hi,hs,hb,hz,hzs,hzv⟩:=lr c T hei;obtain⟨k1,rfl⟩:=eR h1 hl;obtain⟨k2,rfl⟩:=eR h2 hc;split at hd
    ·rename_i hcond;obtain⟨c1,c2,c3,c4⟩:=hcond;simp only[kA,kB] at hd;obtain⟨rfl,rfl⟩:=hd;unfold ab at c2 c3
     have hbytes:(i.bytes:Int)*(m:Int)<=281474976710656:=by
      have:((i.bytes*m:Nat):Int)<=281474976710656:=by rw[hb,Nat.mul_comm];omega
      rwa [Int.natCast_mul] at this
     have hr:=run_make (P:=P) c.w t e i z hu hi hz k1 k2 n m om om hbytes om;simp only[Int.toNat_natCast] at hr;have hm:=lN z.cells ei.size hzs m;refine⟨_,rfl,_,.cells (madeCells z.cells (m*i.size)) e,hr,λS φ hφ=>?_,madeCells z.cells (m*i.size),e,_,[],rfl,(by rw[hs,List.append_nil];exact hm),g9 hzv m,λ_=>rfl⟩;simp only[V];refine⟨c.w.heap.size,0,m,e,m*i.size,?_,rfl,c1,kP _,λ_=>rfl,?_,by rw[hs];omega⟩
     ·rcases hφ id with h|h
      ·rw[h];exact kU c id _
      ·exact absurd rfl h
     have:(c.push id (.cells (madeCells z.cells (m*i.size)) e)).w.heap[c.w.heap.size]?=some (.cells (madeCells z.cells (m*i.size)) e):=by simp only[Ctx.push];exact Array.getElem?_push_size
     simp[World.shape?,this,size_madeCells]
    ·simp at hd
   ·simp at hd
  ·simp at hd
 ·simp at hd
theorem ov (id:Nat){t:TypeId}{r:Option Value}(hr:r=none∨∃ k n kt e,r=some (.int k n)∧P.underlying t=some (.map kt e)) :
  New P c id (Instr.makeMap t r) (.map id) (.map []):=by
 refine⟨.map (some c.w.heap.size),.map #[] 0,?_,λS φ hφ=>?_,rfl,rfl⟩
 ·rcases hr with rfl|⟨k,n,kt,e,rfl,hu⟩
  ·simp[Instr.makeMap,Ctx.push]
  ·simp[Instr.makeMap,run_underlying hu,asInt,asIntOf,Ctx.push]
 ·simp only[V];refine⟨c.w.heap.size,?_,rfl⟩;rcases hφ id with h|h
  ·rw[h];exact kU c id _
  ·exact absurd rfl h
end
end Go.Am
/-
 The abstract machine,part 8: append,copy,a map written.
-/
namespace Go.Am
variable [GT]
section
variable {P:Program}{ti:TI}{c:Ctx}{h:aB}
structure Src (P:Program) (c:Ctx) (es:Nat) (x:Value) (n:Nat) (xs:List D) (ys:List Value):Prop where
 vs:VS c xs ys
 len:ys.length=n*es
 lenOf:∀ w,(Builtin.lenOf x).run P w=.ok n w
 first:∀ w,w.heap=c.w.heap->∀ m,m<=n->(Builtin.firstCells es m x).run P w=.ok (ys.take (m*es)).toArray w
theorem CK {w w':World}(hw:w'.heap=w.heap) (a:Addr):w'.cell? a=w.cell? a:=by simp[World.cell?,hw]
theorem Holds.heap {w w':World}(hw:w'.heap=w.heap){b o:Nat}{ys:List Value}(hh:Holds w b o ys):Holds w' b o ys:=λi hi=>(CK hw _).trans (hh i hi)
theorem mZ {α:Type}{ys:List α}{m n es:Nat}(hl:ys.length=n*es) (hm:m<=n):(ys.take (m*es)).length=m*es:=by
 rw[List.length_take,hl];exact Nat.min_eq_left (Nat.mul_le_mul_right _ hm)
theorem Holds.first {w:World}{b o n m es len cap:Nat}{ys:List Value}(hh:Holds w b o ys) (hl:ys.length=n*es) (hm:m<=n) :
  (Builtin.firstCells es m (.slice (some ⟨b,o,none⟩) len cap)).run P w=.ok (ys.take (m*es)).toArray w:=by
 simp only[Builtin.firstCells];have:=hh.sub 0 (m*es)
 simp only[Nat.add_zero,List.drop_zero] at this;exact this.loadN (mZ hl hm).symm
theorem sN (R:Rel c h){es:Nat}{dx:D}{x:Value}{n:Nat}{xs:List D}(hd:cE h es dx=some (n,xs)) (hx:V c dx x):∃ ys,Src P c es x n xs ys:=by
 unfold cE at hd;split at hd
 ·simp only[kA,kB] at hd;obtain⟨rfl,rfl⟩:=hd;simp only[V] at hx;obtain⟨_,rfl⟩:=hx;exact⟨[],VS.nil,by simp,λ_=>rfl,λw _ m hm=>by simp[Builtin.firstCells]⟩
 ·simp only[kA,kB] at hd;obtain⟨rfl,rfl⟩:=hd;simp only[V] at hx;obtain⟨a,rfl⟩:=hx;refine⟨[],VS.nil,by simp,λ_=>rfl,λw _ m hm=>?_⟩
  have:m=0:=by omega
  subst this;cases a<;>simp[Builtin.firstCells,loadCells,loadCellsFrom]
 ·simp only[kA,kB] at hd;obtain⟨rfl,rfl⟩:=hd;simp only[V] at hx;obtain⟨a,cap,rfl,_⟩:=hx;refine⟨[],VS.nil,by simp,λ_=>rfl,λw _ m hm=>?_⟩
  have:m=0:=by omega
  subst this;cases a<;>simp[Builtin.firstCells,loadCells,loadCellsFrom]
 ·rename_i n' cs;split at hd
  ·rename_i hl;simp only[kA,kB] at hd;obtain⟨rfl,rfl⟩:=hd;simp only[V] at hx;obtain⟨a,cap,ys,rfl,hc,hv,hcase⟩:=hx;have hlen:ys.length=n' * es:=by rw[hv.length,hl]
   refine⟨ys,hv,hlen,λ_=>rfl,λw hw m hm=>?_⟩;rcases hcase with h0|⟨b,o,rfl,_,hh⟩
   ·subst h0
    have hz:m*es=0:=by
     have:m*es<=n' * es:=Nat.mul_le_mul_right _ hm
     simp at hlen;omega
    cases a<;>simp[Builtin.firstCells,hz,loadCells,loadCellsFrom]
   ·exact(hh.heap hw).first hlen hm
  ·simp at hd
 ·rename_i id off n' cap es' ex;split at hd
  ·rename_i he;subst he;split at hd
   ·rename_i cs bx hg;split at hd
    ·rename_i hle;simp only[kA,kB] at hd;obtain⟨rfl,rfl⟩:=hd;simp only[V] at hx;obtain⟨b,o,cap',e,z,hφ,rfl,_⟩:=hx;obtain⟨b',o',ys,z',h1,h2,h3,_⟩:=gM R hg;rw[hφ] at h1;injection h1 with h1;injection h1 with e1 e2;subst e1;subst e2
     have hl2:=h2.length;refine⟨(ys.drop off).take (n' * es'),(h2.drop off).take _,iT om,λ_=>rfl,λw hw m hm=>?_⟩;exact((h3.sub off (n' * es')).heap hw).first (iT om) hm
    ·simp at hd
   ·simp at hd
  ·simp at hd
 ·rename_i s;split at hd
  ·rename_i he;subst he;simp only[kA,kB] at hd;obtain⟨rfl,rfl⟩:=hd;simp only[V] at hx;subst hx;refine⟨s.map λb=>.int .u8 b.toNat,?_,by simp,λ_=>rfl,λw _ m hm=>?_⟩
   ·clear R
    induction s with
    | nil=>exact VS.nil
    | cons b s ih=>exact VS.cons (by simp[V,c7]) ih
   ·simp only[Builtin.firstCells,Sem.run_pure,Nat.mul_one];congr 1;apply Array.ext';have:=Lib.extract_toList (ByteArray.mk s.toArray) 0 m
    rw[Lib.toList_data] at this;simp[List.map_take]
  ·simp at hd
 ·simp at hd
theorem pB {st xt e:TypeId}{u:TypeDesc}{i:TypeInfo}{z:Value}{ts:List TypeId}{ty:TypeId}{base:Option Addr}{sLen sCap n:Nat}{x:Value}{w:World}{olds news:List Value}
  (hst:P.underlying st=some (.slice e)) (hxt:P.underlying xt=some u) (hu:(∃ q,u=.slice q)∨u=.string) (hi:P.info? e=some i) (hz:i.zero=some z)
  (hlen:∀ w,(Builtin.lenOf x).run P w=.ok n w) (holds:(Builtin.firstCells i.size sLen (.slice base sLen sCap)).run P w.drew=.ok olds.toArray w.drew)
  (hnews:(Builtin.firstCells i.size n x).run P w.drew=.ok news.toArray w.drew) (hg:sCap<sLen+n) (h1:(sLen+n)*i.bytes<=ab) (h2:sLen+n<=ab) :
  ∃ k tl,sLen+n<=k∧tl.length=(k-(sLen+n))*z.cells.size∧(Builtin.append_ (st::xt::ts).toArray ty #[.slice base sLen sCap,x]).run P w =
   .ok (.slice (some ⟨w.heap.size,0,none⟩) (sLen+n) k) (w.drew.alloc (.cells (olds++news++tl).toArray e)):=by
 unfold ab at h1 h2;have hn:¬(sLen+n<=sCap):=by omega
 have h63':¬(9223372036854775807<((sLen:Int)+(n:Int))):=by omega
 have hfit:=growslice_fits (bytes:=i.bytes) hg om;have h48':¬(281474976710656<Builtin.nextslicecap (sLen+n) sCap*i.bytes):=by omega
 refine⟨(Question.appendCap (sLen+n) sCap e).cut (w.tape w.drawn (.appendCap (sLen+n) sCap e)),(Builtin.zeroCells z.cells ((Question.appendCap (sLen+n) sCap e).cut (w.tape w.drawn (.appendCap (sLen+n) sCap e))-(sLen+n))).toList,by simp[Question.cut],by simp[Builtin.zeroCells],?_⟩;have fin:∀ {l:Array Value},olds.toArray++(news.toArray++l)=(olds++(news++l.toList)).toArray:=λ{l}=>by apply Array.ext';simp
 rcases hu with⟨q,rfl⟩|rfl
 ·simp[Builtin.append_,run_underlying hst,run_underlying hxt,sizeOf,typeInfo,zeroValue,hi,hz,hlen,hn,h63',h48',Question.forced,holds,hnews,newRow,fin]
 ·simp[Builtin.append_,run_underlying hst,run_underlying hxt,sizeOf,typeInfo,zeroValue,hi,hz,hlen,hn,h63',h48',Question.forced,holds,hnews,newRow,fin]
theorem uw {st xt e:TypeId}{i:TypeInfo}{z:Value}{ts:List TypeId}{ty:TypeId}{k:Nat}{w:World}(hst:P.underlying st=some (.slice e)) (hxt:P.underlying xt=some (.int .i64)) (hi:P.info? e=some i) (hz:i.zero=some z)
  (h0:0<k) (hk:k<=1099511627776) (hs:0<i.size) (hb:k*i.bytes<=1099511627776):∃ m tl,k<=m∧tl.length=(m-k)*z.cells.size∧(Builtin.append_ (st::xt::ts).toArray ty #[.slice none 0 0,.int .i64 k]).run P w =
   .ok (.slice (some ⟨w.heap.size,0,none⟩) k m) (w.drew.alloc (.cells ((Builtin.zeroCells z.cells k).toList++tl).toArray e)):=by
 have hcap:Builtin.nextslicecap k 0=k:=by unfold Builtin.nextslicecap;rw[if_pos om]
 have hk0:k≠0:=by omega
 have hw:IntKind.i64.wrap (k:Int)=k:=by rw[IntKind.wrap_i64];omega
 have h63':¬(9223372036854775807<(k:Int)):=by omega
 have h48':¬(281474976710656<k*i.bytes):=by omega
 have h48i:¬(281474976710656<(k:Int)*(i.bytes:Int)):=by
  rw[<-Int.natCast_mul];omega
 have hneg:¬((k:Int)<0):=by omega
 have hns:¬(k*i.size=0):=Nat.mul_ne_zero hk0 om;have ho:(Builtin.firstCells i.size 0 (.slice none 0 0)).run P w.drew=.ok ([]:List Value).toArray w.drew:=by simp[Builtin.firstCells]
 refine⟨(Question.appendCap k 0 e).cut (w.tape w.drawn (.appendCap k 0 e)),(Builtin.zeroCells z.cells ((Question.appendCap k 0 e).cut (w.tape w.drawn (.appendCap k 0 e))-k)).toList,by simp[Question.cut],by simp[Builtin.zeroCells],?_⟩;have fin:∀ {a l:Array Value},a++l=(a.toList++l.toList).toArray:=λ{a l}=>by apply Array.ext';simp
 simp[Builtin.append_,run_underlying hst,run_underlying hxt,sizeOf,typeInfo,zeroValue,hi,hz,asInt,asIntOf,hw,hk0,hneg,hns,h63',h48',h48i,hcap,Question.forced,ho,newRow,fin]
theorem iG {st xt e:TypeId}{u:TypeDesc}{i:TypeInfo}{ts:List TypeId}{ty:TypeId}{base:Option Addr}{sLen sCap n:Nat}{x:Value}{w w':World}{news:List Value}
  (hst:P.underlying st=some (.slice e)) (hxt:P.underlying xt=some u) (hu:(∃ q,u=.slice q)∨u=.string) (hi:P.info? e=some i)
  (hlen:∀ w,(Builtin.lenOf x).run P w=.ok n w) (hnews:(Builtin.firstCells i.size n x).run P w=.ok news.toArray w) (hg:sLen+n<=sCap)
  (hs:(match base with|some a=>(storeCells (a.add (sLen*i.size)) news).run P w=.ok () w'|none=>w'=w)) :
  (Builtin.append_ (st::xt::ts).toArray ty #[.slice base sLen sCap,x]).run P w=.ok (.slice base (sLen+n) sCap) w':=by
 rcases hu with⟨q,rfl⟩|rfl
 all_goals
  cases base with
  | none=>simp only at hs;subst hs;simp[Builtin.append_,run_underlying hst,run_underlying hxt,sizeOf,typeInfo,hi,hlen,hg,hnews]
  | some a=>simp only at hs;simp[Builtin.append_,run_underlying hst,run_underlying hxt,sizeOf,typeInfo,hi,hlen,hg,hnews,hs]
end
end Go.Am
/-
 The abstract machine,part 9: append,copy,a map written,arithmetic;then: every operation that is no call of a function does what 'aop' says.
-/
namespace Go.Am
variable [GT]
section
variable {P:Program}{ti:TI}{c:Ctx}{h:aB}
theorem Rel.rehome {c:Ctx}{h:aB}(R:Rel c h){i id b o p:Nat}{box box':Box}(hg:h.get i=some box) (hφ:c.φ i=some (b,o)) (hf:c.φ id=none) (hn:id<h.next){w':World}
  (hos:w'.os=c.w.os) (htape:Tp w' c.w) (hout:w'.output=c.w.output) (hsz:w'.heap.size=c.w.heap.size)
  (hother:∀ k,k≠b->w'.heap[k]?=c.w.heap[k]?) (hshape:∀ e z,c.w.shape? b=some (e,z)->w'.shape? b=some (e,z))
  (hb:am c { S:=c.S,φ:=λj=>if j=id then some (b,p) else c.φ j,w:=w' }->BR { S:=c.S,φ:=λj=>if j=id then some (b,p) else c.φ j,w:=w' } b p box') :
  Rel { S:=c.S,φ:=λj=>if j=id then some (b,p) else c.φ j,w:=w' } ((h.del i).put id box')∧aZ c h { S:=c.S,φ:=λj=>if j=id then some (b,p) else c.φ j,w:=w' } ((h.del i).put id box'):=by
 obtain⟨b0,o0,h1,hS,hbr⟩:=R.live i box hg;rw[hφ] at h1;injection h1 with h1;injection h1 with hb0 ho0;subst hb0;subst ho0
 have hii:i≠id:=λe=>by rw[e,hf] at hφ;cases hφ
 generalize hc':({ S:=c.S,φ:=λj=>if j=id then some (b,p) else c.φ j,w:=w' }:Ctx)=c' at *;have e1:c'.S=c.S:=by rw[<-hc']
 have e2:c'.w=w':=by rw[<-hc']
 have e3:∀ j,j≠id->c'.φ j=c.φ j:=λj hj=>by rw[<-hc'];simp[hj]
 have e4:c'.φ id=some (b,p):=by rw[<-hc'];simp
 have K:am c c':=⟨λ_ h=>by rw[e1];exact h,λj x h=>by
   have:j≠id:=λe=>by rw[e,hf] at h;cases h
   rw[e3 j this];exact h,λk hk=>by rw[e2];exact hother k (λe=>hS (e▸hk)),λk e z hz=>by
  rw[e2];by_cases hk:k=b
  ·subst hk;exact hshape e z hz
  ·unfold World.shape? at *;rw[hother k hk];exact hz⟩
 have hgt:∀ j,((h.del i).put id box').get j=if id=j then some box' else if i=j then none else h.get j:=λj=>by
  rw[aB.get_put];split
  ·rfl
  ·rw[aB.get_del]
 have hlive:∀ j bx,j≠id->((h.del i).put id box').get j=some bx->h.get j=some bx∧j≠i:=λj bx hj hgj=>by
  rw[hgt,if_neg (λe=>hj e.symm)] at hgj;split at hgj
  ·cases hgj
  ·rename_i hne;exact⟨hgj,λe=>hne e.symm⟩
 constructor
 ·refine⟨λk hk=>?_,λj hj=>?_,λj bx hgj=>?_,λj j' bx bx' k oo oo' hgj hgj' h1 h1'=>?_,GT.kept K R.inv⟩
  ·have:=R.size k (by rw[<-e1];exact hk);rw[e2];omega
  ·have hne:j≠id:=by simp only[aB.put,aB.del] at hj;omega
   rw[e3 j hne];exact R.fresh j hj
  ·by_cases hj:j=id
   ·subst hj;rw[hgt,if_pos rfl,kA] at hgj;subst hgj;exact⟨b,p,e4,by rw[e1];exact hS,hb K⟩
   ·obtain⟨hgj',hji⟩:=hlive j bx hj hgj;obtain⟨k,oo,h1,h2,h3⟩:=R.live j bx hgj';refine⟨k,oo,by rw[e3 j hj];exact h1,by rw[e1];exact h2,h3.keep K (by rw[e2];exact hother k λe=>hji (R.inj j i bx box k oo o hgj' hg h1 (by rw[e];exact hφ)))⟩
  ·by_cases hj:j=id<;>by_cases hj':j'=id
   ·rw[hj,hj']
   ·subst hj;obtain⟨hgj2,hji⟩:=hlive j' bx' hj' hgj';rw[e4] at h1;injection h1 with h1;injection h1 with h1 _;subst h1
    rw[e3 j' hj'] at h1';exact absurd (R.inj j' i bx' box b oo' o hgj2 hg h1' hφ) hji
   ·subst hj';obtain⟨hgj2,hji⟩:=hlive j bx hj hgj;rw[e4] at h1';injection h1' with h1';injection h1' with h1' _;subst h1'
    rw[e3 j hj] at h1;exact absurd (R.inj j i bx box b oo o hgj2 hg h1 hφ) hji
   ·rw[e3 j hj] at h1;rw[e3 j' hj'] at h1';exact R.inj j j' bx bx' k oo oo' (hlive j bx hj hgj).1 (hlive j' bx' hj' hgj').1 h1 h1'
 ·refine⟨K,by rw[e2];exact hos,by rw[e2];exact htape,by rw[e2];exact hout,by rw[e2,hsz];exact kP _,kP _,λk _ hno=>by rw[e2];exact hother k λe=>hno ⟨i,box,o,hg,e▸hφ⟩,λk ho=>?_,λk hs=>.inl (by rw[<-e1];exact hs)⟩;obtain⟨j,bx,oo,hgj,h1⟩:=ho;by_cases hj:j=id
  ·subst hj;rw[e4] at h1;injection h1 with h1;injection h1 with h1 _;subst h1
   exact .inr ⟨i,box,o,hg,hφ⟩
  ·exact .inr ⟨j,bx,oo,(hlive j bx hj hgj).1,by rw[<-e3 j hj];exact h1⟩
theorem jR {id:Nat}(hf:c.φ id=none){h0:aB}(R0:Rel c h0) (g0:aZ c h c h0) (hn0:id<h0.next){s:Sem Value}{e:TypeId}{cs:List D}{ys tl:List Value}{n k es:Nat}(hv:VS c cs ys) (hk:n<=k)
  (hle:k*es<=(ys++tl).length) (hr:s.run P c.w=.ok (.slice (some ⟨c.w.heap.size,0,none⟩) n k) (c.w.drew.alloc (.cells (ys++tl).toArray e))):Made P c h id s (.sl id 0 n n es false) (h0.put id (.cells cs false)):=by
 obtain⟨R1,G1⟩:=R0.draw (c.w.drawn+1);have hv1:VS (c.draw (c.w.drawn+1)) cs ys:=VS.keep (c.draw_keeps _) _ _ hv;have hb:BR ((c.draw (c.w.drawn+1)).push id (.cells (ys++tl).toArray e)) (c.draw (c.w.drawn+1)).w.heap.size 0 (.cells cs false):=BR_new R1 hf (tl:=tl) si hv1 (λh=>by cases h);obtain⟨r1,r2⟩:=R1.push hf hn0 hb;refine⟨_,(c.draw (c.w.drawn+1)).push id (.cells (ys++tl).toArray e),hr,?_,r1,(g0.trans G1).trans r2,λj hj=>jI _ id _ j hj⟩;simp only[V];refine⟨c.w.heap.size,0,k,e,(ys++tl).length,kU _ id _,rfl,kP _,hk,(λh=>by cases h),?_,by omega⟩
 have:((c.draw (c.w.drawn+1)).push id (.cells (ys++tl).toArray e)).w.heap[c.w.heap.size]?=some (.cells (ys++tl).toArray e):=by simp only[Ctx.push];exact Array.getElem?_push_size
 simp[World.shape?,this]
theorem ux (T:TOk P ti) (R:Rel c h){id:Nat}(hf:c.φ id=none) (hn:id<h.next){ts:List TypeId}{ty:TypeId}{ds dx d:D}{vs vx:Value}{h':aB}(hs:V c ds vs) (hx:V c dx vx)
  (hd:e9 ti h id ts ds dx=some (d,h')):Made P c h id (Builtin.append_ ts.toArray ty #[vs,vx]) d h':=by
 unfold e9 at hd;split at hd
 ·rename_i st xt ts;split at hd
  ·rename_i a b ha hb;obtain⟨hst,_⟩:=T.ok st a ha;obtain⟨hxt,_⟩:=T.ok xt b hb;split at hd
   ·rename_i e he;rw[he] at hst;split at hd
    ·rename_i ei hei;obtain⟨i,z,hi,his,hib,hz,hzs,hzc⟩:=lr c T hei;split at hd
     ·unfold rf at hd;split at hd
      ·rename_i n hbu;split at hd
       ·rename_i hc;obtain⟨h0,hn1,hn2,hes⟩:=hc;simp only[kA,kB] at hd;obtain⟨rfl,rfl⟩:=hd;simp only[V] at hs hx;obtain⟨_,rfl⟩:=hs;obtain⟨_,rfl⟩:=hx;rw[hbu] at hxt;obtain⟨k,rfl⟩:∃ k:Nat,n=(k:Int):=⟨n.toNat,by omega⟩;simp only[Int.toNat_natCast] at hn2 ⊢;unfold ab at hn2;obtain⟨m,tl,hm,htl,hr⟩:=uw (P:=P) (ts:=ts) (ty:=ty) (w:=c.w) hst hxt hi hz (k:=k) om om (by rw[his];exact hes) (by rw[hib];exact hn2);have hfl:=lN z.cells ei.size hzs k
        have hzv:VS c (cx ei.zero k) (Builtin.zeroCells z.cells k).toList:=by
         have e:(Builtin.zeroCells z.cells k).toList=(List.replicate k z.cells.toList).flatten:=by rw[<-hfl,<-hzs];rfl
         rw[e];exact g9 hzc k
        refine jR hf R (aZ.refl c h) hn (tl:=tl) hzv hm ?_ hr;rw[kG,htl,hzs]
        have:(Builtin.zeroCells z.cells k).toList.length=k*ei.size:=by simp[Builtin.zeroCells,hzs]
        rw[this,<-Nat.add_mul];exact Nat.mul_le_mul_right _ om
       ·simp at hd
      ·simp at hd
     ·rename_i hsrc
      have hu:(∃ q,b.u=.slice q)∨b.u=.string:=by
       generalize b.u=u at hsrc ⊢;cases u<;>simp[A5] at hsrc<;>simp
      split at hd
      ·rename_i n xs hxs;obtain⟨ys,S⟩:=sN (P:=P) R hxs hx;have hfull:ys.take (n*ei.size)=ys:=kE (by rw[S.len];exact kP _)
       have hnew:∀ w,w.heap=c.w.heap->(Builtin.firstCells i.size n vx).run P w=.ok ys.toArray w:=λw hw=>by
        have:=S.first w hw n (kP _)
        rw[hfull] at this;rw[his];exact this
       have new_box:∀ base,(0<n)->n*ei.bytes<=ab∧n<=ab->Made P c h id (Builtin.append_ (st::xt::ts).toArray ty #[.slice base 0 0,vx]) (.sl id 0 n n ei.size false) (h.put id (.cells xs false)):=λbase h0 hroom=>by
        have ho:(Builtin.firstCells i.size 0 (.slice base 0 0)).run P c.w.drew=.ok ([]:List Value).toArray c.w.drew:=by
         cases base<;>simp[Builtin.firstCells,loadCells,loadCellsFrom]
        obtain⟨k,tl,hk,htl,hr⟩:=pB (P:=P) (ts:=ts) (ty:=ty) (w:=c.w) (base:=base) (sLen:=0) (sCap:=0) hst hxt hu hi hz S.lenOf ho (hnew _ rfl) om (by rw[hib];simpa using hroom.1) (by simpa using hroom.2);simp only[Nat.zero_add,List.nil_append] at hk htl hr;refine jR hf R (aZ.refl c h) hn (tl:=tl) S.vs hk ?_ hr;rw[kG,S.len,htl,hzs,<-Nat.add_mul];exact Nat.mul_le_mul_right _ om
       split at hd
       ·have hs0:=hs;simp only[V] at hs;obtain⟨_,rfl⟩:=hs;split at hd
        ·rename_i h0;simp only[kA,kB] at hd;obtain⟨rfl,rfl⟩:=hd;subst h0;have hr:=iG (P:=P) (ts:=ts) (ty:=ty) (w:=c.w) (w':=c.w) (base:=none) (sLen:=0) (sCap:=0) hst hxt hu hi S.lenOf (hnew _ rfl) (kP _) rfl;exact Made.same R ⟨_,hr,hs0⟩
        ·rename_i h0;split at hd
         ·rename_i hroom;simp only[kA,kB] at hd;obtain⟨rfl,rfl⟩:=hd;exact new_box none om hroom
         ·simp at hd
       ·simp only[V] at hs;obtain⟨a0,rfl⟩:=hs;split at hd
        ·rename_i h0;simp only[kA,kB] at hd;obtain⟨rfl,rfl⟩:=hd;subst h0;have hy0:ys=[]:=by have:=S.len;simpa using this
         have hr:=iG (P:=P) (ts:=ts) (ty:=ty) (w:=c.w) (w':=c.w) (base:=a0) (sLen:=0) (sCap:=0) hst hxt hu hi S.lenOf (hnew _ rfl) (kP _) (by cases a0<;>simp[hy0,storeCells]);exact Made.same R ⟨_,hr,by simp only[V];exact⟨_,rfl⟩⟩
        ·rename_i h0;split at hd
         ·rename_i hroom;simp only[kA,kB] at hd;obtain⟨rfl,rfl⟩:=hd;exact new_box a0 om hroom
         ·simp at hd
       ·rename_i j off m cap es ex;split at hd
        ·rename_i hes;obtain⟨rfl,hones⟩:=hes;split at hd
         ·rename_i cs bx hg;simp only[V] at hs;obtain⟨bb,o,cap',e',z',hφ,rfl,hmc,hcc,hex,hsh,hle⟩:=hs;split at hd
          ·rename_i hfit;split at hd
           ·rename_i hroom;simp only[kA,kB] at hd;obtain⟨rfl,rfl⟩:=hd;have hxl:xs.length=n*ei.size:=by rw[<-S.vs.length,S.len]
            obtain⟨w',hr,r1,r2⟩:=nt (P:=P) (off:=off+m*ei.size) R hg hφ S.vs (by rw[hxl,Nat.add_assoc,<-Nat.add_mul];exact hroom) hones
            have hr':=iG (P:=P) (ts:=ts) (ty:=ty) (w:=c.w) (w':=w') (base:=some ⟨bb,o+off,none⟩) (sLen:=m) (sCap:=cap') hst hxt hu hi S.lenOf (hnew _ rfl) om
             (by simp only[cP,his];rw[Nat.add_assoc];exact hr)
            refine⟨_,{ c with w:=w' },hr',?_,r1,r2,λ_ _=>rfl⟩;have K:=r2.keeps;simp only[V];exact⟨bb,o,cap',e',z',hφ,rfl,hfit,hcc,hex,K.shape _ _ _ hsh,hle⟩
           ·simp at hd
          ·rename_i hnofit;split at hd
           ·rename_i hroom;obtain⟨q1,q2,q3⟩:=hroom;simp only[kA,kB] at hd;obtain⟨rfl,rfl⟩:=hd;obtain⟨b1,o1,k1,_,arr,ea,pre,oys,tl0,k2,k3,k4,k5,k6⟩:=R.live j _ hg;rw[hφ] at k1;injection k1 with k1;injection k1 with x1 x2;subst x1;subst x2
            have hol:=k5.length;have hxl:xs.length=n*ei.size:=by rw[<-S.vs.length,S.len]
            have hvs:VS c ((cs.drop off).take (m*ei.size)++xs) ((oys.drop off).take (m*ei.size)++ys):=((k5.drop off).take _).append S.vs;by_cases hin:m+n<=cap'
            ·have hexf:ex=false:=by cases ex with|false=>rfl|true=>have:=hex rfl;omega
             subst hexf;have hz':z'=arr.size:=by simp only[World.shape?,k2,kA,kB] at hsh;exact hsh.2.symm
             have hb1:m*ei.size+n*ei.size<=cap' * ei.size:=by rw[<-Nat.add_mul];exact Nat.mul_le_mul_right _ hin
             have hones':=mA hones S.vs;have hyl:=S.len;obtain⟨w',arr',hr,w1,w2,w3,w4,w5,w6,w7,w8⟩:=sL (P:=P) (p:=o+off+m*ei.size) (vs:=ys) k2 om hones'
             have hr':=iG (P:=P) (ts:=ts) (ty:=ty) (w:=c.w) (w':=w') (base:=some ⟨bb,o+off,none⟩) (sLen:=m) (sCap:=cap') hst hxt hu hi S.lenOf (hnew _ rfl) hin
              (by simp only[cP,his];exact hr)
             have hsize:arr.size=pre.length+(oys.length+tl0.length):=by rw[<-Array.length_toList,k3];simp
             obtain⟨r1,r2⟩:=R.rehome (id:=id) (p:=o+off) (box':=.cells ((cs.drop off).take (m*ei.size)++xs) false) hg hφ hf hn w1 w2 w3 w4 w5 (vb k2 w6 w8) λK=>by
              refine⟨arr',ea,arr.toList.take (o+off),(oys.drop off).take (m*ei.size)++ys,arr.toList.drop (o+off+m*ei.size+ys.length),w6,?_,?_,VS.keep K _ _ hvs,(λh=>by cases h)⟩
              ·have key:(arr.toList.drop (o+off)).take (m*ei.size)=(oys.drop off).take (m*ei.size):=by
                rw[k3,<-k4,List.drop_append,List.drop_of_length_le om,List.nil_append,show pre.length+off-pre.length=off from by omega,List.drop_append,List.take_append]
                have:(m*ei.size)-(oys.drop off).length=0:=by simp;omega
                rw[this];simp
               rw[w7,List.take_add,key];simp only[List.append_assoc]
              ·rw[List.length_take,Array.length_toList];omega
             refine⟨_,_,hr',?_,r1,r2,λj' hj'=>by simp[hj']⟩;simp only[V];refine⟨bb,o+off,cap',e',z',by simp,rfl,kP _,hin,(λh=>by cases h),r2.keeps.shape _ _ _ hsh,by omega⟩
            ·have hh:Holds c.w bb o oys:=by
              obtain⟨b2,o2,ys2,_,y1,y2,y3,_⟩:=gM R hg;rw[hφ] at y1;injection y1 with y1;injection y1 with x1 x2;subst x1;subst x2
              intro q hq;unfold World.cell?;simp only[k2,Option.isSome_none,Bool.false_eq_true,if_false];rw[<-Array.getElem?_toList,k3,<-k4,List.getElem?_append_right om,Nat.add_sub_cancel_left,List.getElem?_append_left hq,List.getElem?_eq_getElem hq]
             have hold:(Builtin.firstCells i.size m (.slice (some ⟨bb,o+off,none⟩) m cap')).run P c.w.drew=.ok ((oys.drop off).take (m*ei.size)).toArray c.w.drew:=by
              have:=((hh.sub off (m*ei.size)).heap (w':=c.w.drew) rfl).first (P:=P) (n:=m) (m:=m) (len:=m) (cap:=cap') (es:=ei.size) (iT om) (kP _)
              rw[his,this,List.take_take,Nat.min_self]
             obtain⟨k,tl,hk,htl,hr⟩:=pB (P:=P) (ts:=ts) (ty:=ty) (w:=c.w) hst hxt hu hi hz S.lenOf hold (hnew _ rfl) om (by rw[hib];exact q1) q2
             have hlen:k*ei.size<=(((oys.drop off).take (m*ei.size)++ys)++tl).length:=by
              rw[kG,kG,iT om,S.len,htl,hzs,<-Nat.add_mul,<-Nat.add_mul];exact Nat.mul_le_mul_right _ om
             cases ex with
             | true=>exact jR hf R (aZ.refl c h) hn hvs hk hlen hr
             | false=>
              obtain⟨d1,d2⟩:=R.del j;exact jR hf d1 d2 hn hvs hk hlen hr
           ·simp at hd
         ·simp at hd
        ·simp at hd
       ·simp at hd
      ·simp at hd
    ·simp at hd
   ·simp at hd
  ·simp at hd
 ·simp at hd
end
end Go.Am
/-
 The abstract machine,part 10: copy,a map written,arithmetic;then: every operation that is no call of a function does what 'aop' says.
-/
namespace Go.Am
variable [GT]
section
variable {P:Program}{ti:TI}{c:Ctx}{h:aB}
theorem zE (T:TOk P ti) (R:Rel c h){id:Nat}{ts:List TypeId}{ty:TypeId}{dd dx d:D}{vd vx:Value}{h':aB}(hv:V c dd vd) (hx:V c dx vx)
  (hd:xo ti h ts dd dx=some (d,h')):Made P c h id (Builtin.copy_ ts.toArray ty #[vd,vx]) d h':=by
 unfold xo at hd;split at hd
 ·rename_i dt ts;split at hd
  ·rename_i a ha;obtain⟨hu,_⟩:=T.ok dt a ha;split at hd
   ·rename_i e he;rw[he] at hu;split at hd
    ·rename_i ei hei;obtain⟨_,i,z,hi,his,_⟩:=T.ok e ei hei;split at hd
     ·rename_i n xs hxs;obtain⟨ys,S⟩:=sN (P:=P) R hxs hx;split at hd
      ·simp only[kA,kB] at hd;obtain⟨rfl,rfl⟩:=hd;simp only[V] at hv;obtain⟨_,rfl⟩:=hv;have hf:=S.first c.w rfl 0 (Nat.zero_le _);refine Made.same R ⟨goInt 0,?_,by simp[goInt,V,c7]⟩;simp[Builtin.copy_,run_underlying hu,S.lenOf,ai hi,his,hf]
      ·rename_i j off m cap es ex;split at hd
       ·rename_i hes;obtain⟨rfl,hones⟩:=hes;split at hd
        ·rename_i cs bx hg;split at hd
         ·rename_i hle;simp only[kA,kB] at hd;obtain⟨rfl,rfl⟩:=hd;simp only[V] at hv;obtain⟨b,o,cap',e',z',hφ,rfl,_⟩:=hv;have hf:=S.first c.w rfl (min n m) (Nat.min_le_left _ _);have hvs:VS c (xs.take (min n m*ei.size)) (ys.take (min n m*ei.size)):=S.vs.take _;have hl:(xs.take (min n m*ei.size)).length=min n m*ei.size:=by rw[<-hvs.length];exact mZ S.len (Nat.min_le_left _ _)
          have hle':off+(xs.take (min n m*ei.size)).length<=cs.length:=by
           rw[hl]
           have:min n m*ei.size<=m*ei.size:=Nat.mul_le_mul_right _ (Nat.min_le_right _ _)
           omega
          have hones':∀ (l:List D) (k:Nat),gW l=true->gW (l.take k)=true:=by
           intro l
           induction l with
           | nil=>intro k _;simp[gW]
           | cons x l ih=>
            intro k hk;cases k with
            | zero=>rfl
            | succ k=>simp only[gW,kC,List.take_succ_cons] at *;exact⟨hk.1,ih k hk.2⟩
          obtain⟨w',hr,r1,r2⟩:=nt (P:=P) (off:=off) R hg hφ hvs hle' (hones' _ _ hones);refine⟨goInt (min n m:Nat),{ c with w:=w' },?_,by simp[goInt,V,c7],r1,r2,λ_ _=>rfl⟩;have hmin:Nat.min n m=min n m:=rfl;simp[Builtin.copy_,run_underlying hu,S.lenOf,ai hi,his,hmin,hf,hr]
         ·simp at hd
        ·simp at hd
       ·simp at hd
      ·simp at hd
     ·simp at hd
    ·simp at hd
   ·simp at hd
  ·simp at hd
 ·simp at hd
theorem xB {k:D}:∀ {es:List (D×D)}{i j:Nat}{x:D},bo h k es i=some (some (j,x))->i<=j∧∃ k',es[j-i]?=some (k',x)∧az h k k'=some true
 | [],i,j,x,hf=>by simp[bo] at hf
 | (k',x')::es,i,j,x,hf=>by
  simp only[bo] at hf;split at hf
  ·rename_i hs;simp only[kA,kB] at hf;obtain⟨rfl,rfl⟩:=hf;exact⟨kP _,k',by simp,hs⟩
  ·obtain⟨h1,k2,h2,h3⟩:=xB hf;refine⟨by omega,k2,?_,h3⟩;rw[show j-i=(j-(i+1))+1 from by omega,List.getElem?_cons_succ];exact h2
  ·simp at hf
theorem vh {k k':D}{y y':Value}(hs:c5 k k'=some true) (h1:V c k y) (h2:V c k' y'):y'=y∧Instr.sameBits 9999 y y=true:=by
 unfold c5 at hs;split at hs
 ·simp only[kA,beq_iff_eq] at hs;subst hs;simp only[V] at h1 h2;subst h1;subst h2;exact⟨rfl,by simp[Instr.sameBits,nZ]⟩
 ·split at hs
  ·rename_i hq;subst hq;simp only[kA,beq_iff_eq] at hs;subst hs;simp only[V] at h1 h2;obtain⟨_,rfl⟩:=h1;obtain⟨_,rfl⟩:=h2;exact⟨rfl,by simp[Instr.sameBits]⟩
  ·simp at hs
 ·simp at hs
theorem mi:∀ {as bs:List D}{ys zs:List Value},b7 as bs=some true->VS c as ys->VS c bs zs->zs=ys∧(ys.zip ys).all (λp=>Instr.sameBits 9999 p.1 p.2)=true
 | [],[],ys,zs,_,h1,h2=>by simp only[VS] at h1 h2;subst h1;subst h2;exact⟨rfl,rfl⟩
 | [],_::_,_,_,hs,_,_=>by simp[b7] at hs
 | _::_,[],_,_,hs,_,_=>by simp[b7] at hs
 | a::as,b::bs,ys,zs,hs,h1,h2=>by
  simp only[b7] at hs;split at hs
  ·rename_i p q hp hq;simp only[kA,kC] at hs;obtain⟨rfl,rfl⟩:=hs;obtain⟨x,xs,rfl,v1,hys⟩:=h1.inv;obtain⟨z,zs',rfl,w1,hzs⟩:=h2.inv;obtain⟨rfl,e1⟩:=vh hp v1 w1;obtain⟨rfl,e2⟩:=mi hq hys hzs;exact⟨rfl,by simp only[List.zip_cons_cons,List.all_cons,e1,e2,Bool.and_self]⟩
  ·cases hs
theorem yU {as bs:List D}{y y':Value}(hs:f9 as bs=some true) (h1:V c (.agg as) y) (h2:V c (.agg bs) y'):y'=y∧Instr.sameBits 10000 y y=true:=by
 simp only[V] at h1 h2;obtain⟨ys,rfl,hys⟩:=h1;obtain⟨zs,rfl,hzs⟩:=h2;obtain⟨rfl,e⟩:=mi (la hs) hys hzs;refine⟨rfl,?_⟩;rw[show(10000:Nat)=9999+1 from rfl];simp only[Instr.sameBits,beq_self_eq_true,Bool.true_and];exact e
theorem yT {k k':D}{y y':Value}(hs:az h k k'=some true) (h1:V c k y) (h2:V c k' y'):y'=y∧Instr.sameBits 10000 y y=true:=by
 unfold az at hs;split at hs
 ·rename_i a b;simp only[kA,beq_iff_eq] at hs;subst hs;simp only[V] at h1 h2;subst h1;subst h2;exact⟨rfl,by simp[Instr.sameBits,nZ]⟩
 ·rename_i q a q' b;split at hs
  ·rename_i hq;subst hq;simp only[kA,beq_iff_eq] at hs;subst hs;simp only[V] at h1 h2;obtain⟨_,rfl⟩:=h1;obtain⟨_,rfl⟩:=h2;exact⟨rfl,by simp[Instr.sameBits]⟩
  ·simp at hs
 ·rename_i i o i' o';split at hs
  ·simp only[kA,kC,beq_iff_eq] at hs;obtain⟨rfl,rfl⟩:=hs;simp only[V] at h1 h2;obtain⟨b,p,hb,rfl⟩:=h1;obtain⟨b',p',hb',rfl⟩:=h2;rw[hb] at hb';injection hb' with hb';injection hb' with e1 e2;subst e1;subst e2
   exact⟨rfl,by simp[Instr.sameBits]⟩
  ·simp at hs
 ·exact yU hs h1 h2
 ·simp at hs
theorem ES.set {k x:D}{e:MapEntry}(hk:V c k e.key) (hx:V c x e.val):∀ {es:List (D×D)}{l:List MapEntry}(j:Nat),ES c es l->ES c (es.set j (k,x)) (l.set j e)
 | [],l,j,he=>by simp only[ES] at he;subst he;simp[ES]
 | (k0,x0)::es,l,0,he=>by obtain⟨e0,l',rfl,_,_,h3⟩:=he;exact⟨e,l',rfl,hk,hx,h3⟩
 | (k0,x0)::es,l,j+1,he=>by obtain⟨e0,l',rfl,h1,h2,h3⟩:=he;exact⟨e0,_,rfl,h1,h2,ES.set hk hx j h3⟩
theorem ES.snoc {k x:D}{e:MapEntry}(hk:V c k e.key) (hx:V c x e.val):∀ {es:List (D×D)}{l:List MapEntry},ES c es l->ES c (es++[(k,x)]) (l++[e])
 | [],l,he=>by simp only[ES] at he;subst he;exact⟨e,[],rfl,hk,hx,rfl⟩
 | (k0,x0)::es,l,he=>by obtain⟨e0,l',rfl,h1,h2,h3⟩:=he;exact⟨e0,_,rfl,h1,h2,ES.snoc hk hx h3⟩
theorem StB.push {a:Array MapEntry} {n:Nat} (h:StB a.toList n) (key val:Value):StB (a.push { key,val,born:=n }).toList (n+1):=by
 obtain⟨h1,h2⟩:=h;refine⟨λx hx=>?_,?_⟩
 ·simp only[Array.toList_push,List.mem_append,List.mem_singleton] at hx;rcases hx with hx|rfl
  ·exact Nat.lt_succ_of_lt (h1 x hx)
  ·exact Nat.lt_succ_self _
 ·simp only[Array.toList_push,List.map_append,List.map_cons,List.map_nil];refine List.nodup_append.2 ⟨h2,by simp,?_⟩;intro a ha b hb;simp only[List.mem_singleton] at hb;subst hb;obtain⟨x,hx,rfl⟩:=List.mem_map.1 ha;exact Nat.ne_of_lt (h1 x hx)
theorem StB.modify {a:Array MapEntry}{n:Nat}(h:StB a.toList n) (j:Nat){f:MapEntry->MapEntry}(hf:∀ e,(f e).born=e.born):StB (a.modify j f).toList n:=by
 have hborn:(a.modify j f).toList.map (·.born)=a.toList.map (·.born):=by
  apply List.ext_getElem?;intro i;simp only[List.getElem?_map,Array.getElem?_toList,Array.getElem?_modify];by_cases hij:j=i
  ·subst hij;cases he:a[j]? with
   | none=>simp
   | some e=>simp[hf e]
  ·simp[hij]
 refine⟨λx hx=>?_,by rw[hborn];exact h.2⟩
 have:x.born∈(a.modify j f).toList.map (·.born):=List.mem_map_of_mem hx
 rw[hborn] at this;obtain⟨y,hy,e⟩:=List.mem_map.1 this;rw[<-e];exact h.1 y hy
theorem vK (R:Rel c h){id b o:Nat}{es es':List (D×D)}{arr arr':Array MapEntry}{clock clock':Nat}(hg:h.get id=some (.map es)) (hφ:c.φ id=some (b,o)) (hb:c.w.heap[b]?=some (.map arr clock))
  (ho:o=0) (hs:StB arr'.toList clock') (he:am c { c with w:={ c.w with heap:=c.w.heap.setIfInBounds b (.map arr' clock') } }->ES { c with w:={ c.w with heap:=c.w.heap.setIfInBounds b (.map arr' clock') } } es' arr'.toList) :
  Rel { c with w:={ c.w with heap:=c.w.heap.setIfInBounds b (.map arr' clock') } } (h.set id (.map es'))∧aZ c h { c with w:={ c.w with heap:=c.w.heap.setIfInBounds b (.map arr' clock') } } (h.set id (.map es')):=by
 have hlt:=(Array.getElem?_eq_some_iff.1 hb).1;refine R.turn hg hφ rfl ⟨rfl,kP _⟩ rfl si (λk hk=>by rw[Array.getElem?_setIfInBounds_ne (λe=>hk e.symm)]) (λe z hz=>?_) λK=>⟨ho,arr',clock',by simp[hlt],he K,hs⟩
 simp[World.shape?,hb] at hz
theorem nB (T:TOk P ti) (R:Rel c h){t:TypeId}{dm dk dx:D}{vm vk vx:Value}{h':aB}(hd:fY ti h t dm dk dx=some h') (hm:V c dm vm) (hk:V c dk vk) (hx:V c dx vx) :
  ∃ w',(Instr.mapUpdate t vm vk vx).run P c.w=.ok () w'∧Rel { c with w:=w' } h'∧aZ c h { c with w:=w' } h':=by
 unfold fY at hd;split at hd
 ·rename_i a ha;obtain⟨hu,_⟩:=T.ok t a ha;split at hd
  ·rename_i kt e he;rw[he] at hu;split at hd
   ·rename_i ka id hka;split at hd
    ·rename_i es hg;split at hd
     ·rename_i hkey;simp only[V] at hm;obtain⟨b,hφ,rfl⟩:=hm;obtain⟨b',o,h1,_,h2,arr,clock,h3,h4,h5⟩:=R.live id _ hg;rw[hφ] at h1;injection h1 with h1;injection h1 with e1 e2;subst e1
      split at hd
      ·rename_i j x hf;simp only[kA] at hd;subst hd;obtain⟨hck,⟨h0,_⟩|⟨j',x',v,g1,g2,g3⟩⟩:=fV T R hka hkey hk h4 hf
       ·cases h0
       ·simp only[kA,kB] at g1;obtain⟨rfl,rfl⟩:=g1;obtain⟨_,k',f1,f2⟩:=xB hf;simp only[Nat.sub_zero] at f1;obtain⟨e0,f3,f4,f5⟩:=F6 h4 j k' x f1;obtain⟨f6,f7⟩:=yT f2 hk f4;have f3':arr[j]?=some e0:=by rw[<-Array.getElem?_toList];exact f3
        have hstay:(Instr.keyThatStays (((arr[j]?).map (·.key)).getD vk) vk).run P c.w=.ok vk c.w:=by
         simp only[f3',kF,Option.getD_some,f6];unfold Instr.keyThatStays;simp[f7]
        obtain⟨r1,r2⟩:=vK (es':=es.set j (dk,dx)) (arr':=arr.modify j λe=>{ e with key:=vk,val:=vx }) (clock':=clock) R hg hφ h3 rfl (StB.modify h5 j (by intro _;rfl)) λK=>by
         have:=ES.set (c:={ c with w:={ c.w with heap:=c.w.heap.setIfInBounds b (.map (arr.modify j λe=>{ e with key:=vk,val:=vx }) clock) } }) (k:=dk) (x:=dx) (e:={ e0 with key:=vk,val:=vx }) (V.keep K _ _ hk) (V.keep K _ _ hx) j (ES.keep K _ _ h4)
         have e:(arr.modify j λe=>{ e with key:=vk,val:=vx }).toList=arr.toList.set j { e0 with key:=vk,val:=vx }:=by
          apply List.ext_getElem?;intro q;rw[Array.getElem?_toList,Array.getElem?_modify,List.getElem?_set];by_cases hq:j=q
          ·subst hq;obtain⟨hlt,hge⟩:=Array.getElem?_eq_some_iff.1 f3';simp[hlt,hge]
          ·simp[hq]
         rw[e];exact this
        refine⟨_,?_,r1,r2⟩;simp only[Instr.mapUpdate,Sem.run_bind,run_underlying hu,Result.andThen,MapKept.run_getObj_map h3,hck,g2,hstay,MapKept.run_setObj_map _ h3]
      ·rename_i hf;simp only[kA] at hd;subst hd;obtain⟨hck,⟨_,g2⟩|⟨j',x',v,g1,_⟩⟩:=fV T R hka hkey hk h4 hf
       ·obtain⟨r1,r2⟩:=vK (es':=es++[(dk,dx)]) (arr':=arr.push { key:=vk,val:=vx,born:=clock }) (clock':=clock+1) R hg hφ h3 rfl (StB.push h5 _ _) λK=>by
         simp only[Array.toList_push];exact ES.snoc (e:={ key:=vk,val:=vx,born:=clock }) (V.keep K _ _ hk) (V.keep K _ _ hx) (ES.keep K _ _ h4)
        refine⟨_,?_,r1,r2⟩;simp only[Instr.mapUpdate,Sem.run_bind,run_underlying hu,Result.andThen,MapKept.run_getObj_map h3,hck,g2,MapKept.run_setObj_map _ h3]
       ·cases g1
      ·simp at hd
     ·simp at hd
    ·simp at hd
   ·simp at hd
  ·simp at hd
 ·simp at hd
theorem xH (op:BinOp) (t:TypeId) (ox oy:Operand) (a b:ByteArray) (w:World):(eqGuard op t ox oy (.string a) (.string b)).run P w=.ok () w:=by
 unfold eqGuard;cases op<;>rfl
theorem vS {op:BinOp}{t:TypeId}{a b:List UInt8}{d:D}(hd:fv op a b=some d):∃ v,(binOp op t (.string ⟨a.toArray⟩) (.string ⟨b.toArray⟩)).run P c.w=.ok v c.w∧V c d v:=by
 have e1:∀ l:List UInt8,(ByteArray.mk l.toArray).toList=l:=λl=>by rw[Lib.toList_data]
 unfold fv at hd;split at hd
 ·split at hd
  ·rename_i hl;simp only[kA] at hd;subst hd;unfold ab at hl;refine⟨.string (⟨a.toArray⟩++⟨b.toArray⟩),?_,?_⟩
   ·have s1:(ByteArray.mk a.toArray).size=a.length:=rfl;have s2:(ByteArray.mk b.toArray).size=b.length:=rfl
    have:¬(((a.length+b.length:Nat):Int) > IntKind.i64.max):=by
     have:IntKind.i64.max=9223372036854775807:=rfl
     omega
    simp only[binOp,Op.stringOp,s1,s2,this,if_false,Sem.run_pure]
   ·simp only[V];congr 1
  ·simp at hd
 all_goals first
  | (simp at hd;done)
  | (simp only[kA] at hd;subst hd
     refine⟨_,by simp only[binOp,Op.stringOp,e1];rfl,by simp[V,c7]⟩)
theorem uH {op:BinOp}{t:TypeId}{ox oy:Operand}{x y:D}{b:Bool}{vx vy:Value}(hd:uI P op t x y=some b) (hx:V c x vx) (hy:V c y vy) :
  (do eqGuard op t ox oy vx vy;binOp op t vx vy:Sem Value).run P c.w=.ok (.bool b) c.w:=by
 unfold uI at hd;split at hd
 ·rename_i y';simp only[V] at hy;obtain⟨_,rfl⟩:=hy;split at hd
  ·rename_i hn;split at hd
   ·rename_i u hu;split at hd
    ·rename_i hno
     have hop:(op=.eql∧b=false)∨(op=.neq∧b=true):=by
      split at hd
      ·simp only[kA] at hd;exact .inl ⟨rfl,hd.symm⟩
      ·simp only[kA] at hd;exact .inr ⟨rfl,hd.symm⟩
      ·simp at hd
     have key:∀ r:Bool,eqGuard op t ox oy vx vy=pure ()->(Op.equal t vx vy).run P c.w=.ok r c.w->r=false->(binOp .eql t vx vy=(do pure (.bool (<-Op.equal t vx vy))))->(binOp .neq t vx vy=(do pure (.bool (!(<-Op.equal t vx vy))))) ->
       (do eqGuard op t ox oy vx vy;binOp op t vx vy:Sem Value).run P c.w=.ok (.bool b) c.w:=λr h1 h2 h3 h4 h5=>by
      subst h3;rcases hop with⟨rfl,rfl⟩|⟨rfl,rfl⟩
      ·rw[h1,h4];simp[h2]
      ·rw[h1,h5];simp[h2]
     have hop':op=.eql∨op=.neq:=hop.imp (·.1) (·.1);unfold Df at hn;split at hn
     ·simp only[V] at hx;obtain⟨_,_,_,_,_,_,rfl,_⟩:=hx;cases u<;>simp only[oq,Bool.false_eq_true] at hno;refine key false (by rcases hop' with rfl|rfl<;>rfl) ?_ rfl rfl rfl;show(Op.equalIn (9999+1) t _ _).run P c.w=_;rw[Op.equalIn];simp only[Sem.run_bind,run_underlying hu,Result.andThen];rfl
     ·simp only[V] at hx;obtain⟨_,_,ys,rfl,_,h2,h3⟩:=hx;rcases h3 with h3|⟨_,_,rfl,_⟩
      ·subst h3;simp[VS] at h2
      cases u<;>simp only[oq,Bool.false_eq_true] at hno;refine key false (by rcases hop' with rfl|rfl<;>rfl) ?_ rfl rfl rfl;show(Op.equalIn (9999+1) t _ _).run P c.w=_;rw[Op.equalIn];simp only[Sem.run_bind,run_underlying hu,Result.andThen];rfl
     ·simp only[V] at hx;obtain⟨_,_,_,rfl⟩:=hx;cases u<;>simp only[oq,Bool.false_eq_true] at hno;refine key false (by rcases hop' with rfl|rfl<;>rfl) ?_ rfl rfl rfl;show(Op.equalIn (9999+1) t _ _).run P c.w=_;rw[Op.equalIn];simp only[Sem.run_bind,run_underlying hu,Result.andThen];rfl
     ·simp only[V] at hx;obtain⟨_,_,_,rfl,_⟩:=hx;cases u<;>simp only[oq,Bool.false_eq_true] at hno;refine key false (by rcases hop' with rfl|rfl<;>rfl) ?_ rfl rfl rfl;show(Op.equalIn (9999+1) t _ _).run P c.w=_;rw[Op.equalIn];simp only[Sem.run_bind,run_underlying hu,Result.andThen];rfl
     ·simp only[V] at hx;obtain⟨_,_,rfl⟩:=hx;cases u<;>simp only[oq,Bool.false_eq_true] at hno;refine key false (by rcases hop' with rfl|rfl<;>rfl) ?_ rfl rfl rfl;show(Op.equalIn (9999+1) t _ _).run P c.w=_;rw[Op.equalIn];simp only[Sem.run_bind,run_underlying hu,Result.andThen];rfl
     ·simp only[V] at hx;obtain⟨_,_,rfl,_⟩:=hx;cases u<;>simp only[oq,Bool.false_eq_true] at hno;refine key false (by rcases hop' with rfl|rfl<;>rfl) ?_ rfl rfl rfl;show(Op.equalIn (9999+1) t _ _).run P c.w=_;rw[Op.equalIn];simp only[Sem.run_bind,run_underlying hu,Result.andThen];rfl
     ·simp only[V] at hx;obtain⟨_,rfl,_⟩:=hx;cases u<;>simp only[oq,Bool.false_eq_true] at hno;refine key false (by rcases hop' with rfl|rfl<;>rfl) ?_ rfl rfl rfl;show(Op.equalIn (9999+1) t _ _).run P c.w=_;rw[Op.equalIn];simp only[Sem.run_bind,run_underlying hu,Result.andThen];rfl
     ·simp at hn
    ·simp at hd
   ·simp at hd
  ·unfold G9 at hd;split at hd
   ·rename_i b';simp only[V] at hx;obtain⟨a,cap,rfl,rfl⟩:=hx;split at hd
    ·rename_i hu
     have heq:(Op.equal t (.slice a 0 cap) (.slice none 0 0)).run P c.w=.ok (!a.isSome) c.w:=by
      show(Op.equalIn (9999+1) t _ _).run P c.w=_;rw[Op.equalIn];simp only[Sem.run_bind,run_underlying hu,Result.andThen];cases a<;>rfl
     have h4:binOp .eql t (.slice a 0 cap) (.slice none 0 0)=(do pure (.bool (<-Op.equal t (.slice a 0 cap) (.slice none 0 0)))):=rfl;have h5:binOp .neq t (.slice a 0 cap) (.slice none 0 0)=(do pure (.bool (!(<-Op.equal t (.slice a 0 cap) (.slice none 0 0))))):=rfl;have g1:eqGuard .eql t ox oy (.slice a 0 cap) (.slice none 0 0)=pure ():=rfl;have g2:eqGuard .neq t ox oy (.slice a 0 cap) (.slice none 0 0)=pure ():=rfl;split at hd
     ·simp only[kA] at hd;subst hd;rw[g1,h4];simp[heq]
     ·simp only[kA] at hd;subst hd;rw[g2,h5];simp[heq]
     ·cases hd
    ·cases hd
   ·cases hd
 ·simp at hd
theorem tJ {op:BinOp}{t:TypeId}{ox oy:Operand}{x y d:D}{vx vy:Value}(hd:ba P op t ox oy x y=some d) (hx:V c x vx) (hy:V c y vy) :
  ∃ v,(do eqGuard op t ox oy vx vy;binOp op t vx vy:Sem Value).run P c.w=.ok v c.w∧V c d v:=by
 unfold ba at hd;split at hd
 ·rename_i a b;simp only[V] at hx hy;subst hx;subst hy;obtain⟨v,h1,h2⟩:=vS (P:=P) (c:=c) (t:=t) hd;exact⟨v,by simp only[Sem.run_bind,xH,Result.andThen,h1],h2⟩
 ·split at hd
  ·rename_i b hb;simp only[kA] at hd;subst hd;exact⟨.bool b,uH hb hx hy,by simp[V,c7]⟩
  ·split at hd
   ·rename_i a b ha hb;rw[iS ha hx,iS hb hy];split at hd
    ·rename_i r hr;exact⟨r,b8 _ _ hr,bY c r d hd⟩
    ·simp at hd
   ·simp at hd
theorem lp:∀ {ds:List D}{ys:List Value}{l:List UInt8},dB ds=some l->VS c ds ys->∃ ns:List Int,ys=ns.map (.int .u8)∧l=ns.map λn=>UInt8.ofNat n.toNat
 | [],ys,l,hb,hv=>by
  simp only[dB,kA] at hb;subst hb;simp only[VS] at hv;subst hv;exact⟨[],rfl,rfl⟩
 | d::ds,ys,l,hb,hv=>by
  obtain⟨y,ys',rfl,h1,h2⟩:=hv.inv;unfold dB at hb;split at hb
  ·rename_i heq;cases heq
  ·rename_i n ds' heq;injection heq with e1 e2;subst e1;subst e2
   split at hb
   ·rename_i l' hl;simp only[kA] at hb;subst hb;simp only[V] at h1;obtain⟨_,rfl⟩:=h1;obtain⟨ns,rfl,rfl⟩:=lp hl h2;exact⟨n::ns,rfl,rfl⟩
   ·simp at hb
  ·simp at hb
theorem B3 (ns:List Int):∀ acc:ByteArray,ns.foldl (λr n=>r.push (UInt8.ofNat n.toNat)) acc=⟨acc.data++(ns.map λn=>UInt8.ofNat n.toNat).toArray⟩:=by
 induction ns with
 | nil=>intro acc;simp
 | cons n ns ih=>
  intro acc;rw[List.foldl_cons,ih];congr 1;apply Array.ext';simp[ByteArray.push]
theorem ln {src dst e:TypeId}{b o n cap:Nat}{cs:List D}{ys:List Value}{l:List UInt8}(hs:P.underlying src=some (.slice e)) (he:P.underlying e=some (.int .u8)) (ht:P.underlying dst=some .string)
  (hv:VS c cs ys) (hh:Holds c.w b o ys) (hn:ys.length=n) (hl:dB cs=some l):(convert src dst (.slice (some ⟨b,o,none⟩) n cap)).run P c.w=.ok (.string ⟨l.toArray⟩) c.w:=by
 obtain⟨ns,rfl,rfl⟩:=lp hl hv;have hload:=hh.loadN (P:=P) hn.symm;rw[run_convert_bytes_string c.w src dst e _ n cap hs he ht,run_bytesToString c.w _ n cap ns hload,B3];simp
theorem gk {src dst e:TypeId}{a:Option Addr}{cap:Nat}(hs:P.underlying src=some (.slice e)) (he:P.underlying e=some (.int .u8)) (ht:P.underlying dst=some .string) :
  (convert src dst (.slice a 0 cap)).run P c.w=.ok (.string ⟨([]:List UInt8).toArray⟩) c.w:=by
 rw[run_convert_bytes_string c.w src dst e _ 0 cap hs he ht];cases a with
 | none=>rfl
 | some a=>rw[run_bytesToString c.w a 0 cap [] (by simp[loadCells,loadCellsFrom])];rfl
end
end Go.Am
/-
 The abstract machine,part 10b: loops over maps: the map is frozen as the loop begins;its iterator is a box of the entries that are left.
-/
namespace Go.Am
variable [GT]
section
variable {P:Program}{ti:TI}{c:Ctx}{h:aB}
def Ctx.ice (c:Ctx) (b:Nat):Ctx:={ c with S:=λk=>c.S k∨k=b }
theorem Ctx.ice_keeps (c:Ctx) (b:Nat):am c (c.ice b):=⟨λ_ h=>.inl h,λ_ _ h=>h,λ_ _=>rfl,λ_ _ _ h=>h⟩
theorem aB.del_next (h:aB) (m:Nat):(h.del m).next=h.next:=by cases h;rfl
theorem Rel.ice (R:Rel c h){m b o:Nat}{box:Box}(hg:h.get m=some box) (hφ:c.φ m=some (b,o)):Rel (c.ice b) (h.del m)∧aZ c h (c.ice b) (h.del m):=by
 have hlive:∀ j bx,(h.del m).get j=some bx->j≠m∧h.get j=some bx:=λj bx hj=>by
  rw[aB.get_del] at hj;split at hj
  ·cases hj
  ·rename_i e;exact⟨λx=>e x.symm,hj⟩
 have hb:b<c.w.heap.size:=by
  obtain⟨b',o',h1,_,h3⟩:=R.live m box hg;rw[hφ] at h1;injection h1 with h1;injection h1 with e1 _
  rw[e1];exact h3.lt
 have K:=c.ice_keeps b
 refine⟨⟨λk hk=>hk.elim (R.size k) λe=>e▸hb,λj hj=>R.fresh j (by rw[aB.del_next] at hj;exact hj),λj bx hj=>?_,λj j' bx bx' k o1 o2 hj hj'=>R.inj j j' bx bx' k o1 o2 (hlive j bx hj).2 (hlive j' bx' hj').2,GT.kept K R.inv⟩,
  ⟨K,rfl,⟨rfl,kP _⟩,rfl,kP _,by rw[aB.del_next];exact kP _,λ_ _ _=>rfl,λk ⟨j,bx,o1,hj,h1⟩=>.inr ⟨j,bx,o1,(hlive j bx hj).2,h1⟩,λk hk=>hk.elim .inl λe=>.inr (.inr ⟨m,box,o,hg,e▸hφ⟩)⟩⟩
 obtain⟨hne,hj⟩:=hlive j bx hj;obtain⟨k,o1,h1,h2,h3⟩:=R.live j bx hj;exact⟨k,o1,h1,λhs=>hs.elim h2 λe=>hne (R.inj j m bx box k o1 o hj hg h1 (e▸hφ)),h3.keep K rfl⟩
theorem Bh (l:List MapEntry):jf l #[]=l:=by
 unfold jf;rw[List.filter_eq_self];intro x _;simp
theorem v6 (T:TOk P ti) (R:Rel c h){id:Nat}(hf:c.φ id=none) (hn:id<h.next){t:TypeId}{x d:D}{h':aB}{v:Value}(hd:u4 ti h id t x=some (d,h')) (hx:V c x v) :
  Made P c h id (Instr.range t v) d h':=by
 unfold u4 at hd;split at hd
 ·rename_i a m ha;obtain⟨hu,_⟩:=T.ok t a ha;split at hd
  ·rename_i kt e es he hg;rw[he] at hu;simp only[kA,kB] at hd;obtain⟨rfl,rfl⟩:=hd;simp only[V] at hx;obtain⟨b,hφ,rfl⟩:=hx;obtain⟨b',o,h1,_,h2,arr,clock,h3,h4,h5⟩:=R.live m _ hg;rw[hφ] at h1;injection h1 with h1;injection h1 with e1 _;subst e1
   obtain⟨R1,G1⟩:=R.ice hg hφ;have hf1:(c.ice b).φ id=none:=hf;have hlt:b<c.w.heap.size:=(Array.getElem?_eq_some_iff.1 h3).1
   have hbr:BR ((c.ice b).push id (.mapIter (some b) clock #[] clock)) (c.ice b).w.heap.size 0 (.iter es none):=by
    refine⟨rfl,b,arr,clock,clock,clock,#[],by simp only[Ctx.push];exact Array.getElem?_push_size,.inr rfl,?_,h5,kP _,kP _,?_,λ_ _ hx=>by cases hx⟩
    ·simp only[Ctx.push,Ctx.ice,Array.getElem?_push];rw[if_neg om];exact h3
    ·rw[Bh];exact ES.keep (am.trans (c.ice_keeps b) (Ctx.push_keeps R1 hf1 _)) _ _ h4
   obtain⟨R2,G2⟩:=R1.push hf1 (by rw[aB.del_next];exact hn) hbr;refine⟨.pointer (some ⟨c.w.heap.size,0,none⟩),_,?_,?_,R2,G1.trans G2,jI (c.ice b) id _⟩
   ·exact run_range_map c.w t kt e b arr clock hu h3
   ·simp only[V];exact⟨_,_,kU (c.ice b) id _,rfl⟩
  ·simp at hd
 ·simp at hd
theorem xJ (R:Rel c h){x d:D}{v:Value}(hd:rg h x=some d) (hx:V c x v):∃ y,(Instr.entry v).run P c.w=.ok y c.w∧V c d y:=by
 unfold rg at hd;split at hd
 ·rename_i i;split at hd
  ·rename_i left p hg;simp only[kA] at hd;subst hd;simp only[V] at hx;obtain⟨b,o,hφ,rfl⟩:=hx;obtain⟨b',o',h1,_,h2,bm,a,clock,since,last,seen,h3,_,h5,h6,_,_,_,h10⟩:=R.live i _ hg;rw[hφ] at h1;injection h1 with h1;injection h1 with e1 e2;subst e1;subst e2;subst h2
   obtain⟨e,seen',rfl,he,rfl,v1,v2⟩:=h10 p.1 p.2 rfl;refine⟨_,run_entry_at c.w b bm since seen' a last e h3 h5 he h6.2,?_⟩;simp only[V];exact⟨_,rfl,VS.cons v1 (VS.cons v2 VS.nil)⟩
  ·simp at hd
 ·simp at hd
theorem ES.at {c:Ctx}:∀ {es:List (D×D)}{l:List MapEntry},ES c es l->∀ i (h:i<l.length),∃ h':i<es.length,V c es[i].1 l[i].key∧V c es[i].2 l[i].val
 | [],l,he,i,hi=>by simp only[ES] at he;subst he;simp at hi
 | (k,x)::es,l,he,i,hi=>by
  obtain⟨e,l',rfl,h1,h2,h3⟩:=he;cases i with
  | zero=>exact⟨by simp,h1,h2⟩
  | succ i=>
   obtain⟨h4,h5,h6⟩:=ES.at h3 i (by simpa using hi);exact⟨by simpa using h4,h5,h6⟩
theorem ES.nil_iff {c:Ctx}{es:List (D×D)}{l:List MapEntry}(he:ES c es l) (h:l=[]):es=[]:=by
 subst h;cases es with
 | nil=>rfl
 | cons p es=>obtain⟨k,x⟩:=p;obtain⟨_,_,hh,_⟩:=he;cases hh
theorem ES.erase {c:Ctx}:∀ {es:List (D×D)}{l:List MapEntry}(i:Nat),ES c es l->ES c (es.eraseIdx i) (l.eraseIdx i)
 | [],l,i,he=>by simp only[ES] at he;subst he;simp[ES]
 | (k,x)::es,l,0,he=>by obtain⟨e,l',rfl,_,_,h3⟩:=he;exact h3
 | (k,x)::es,l,i+1,he=>by obtain⟨e,l',rfl,h1,h2,h3⟩:=he;exact⟨e,_,rfl,h1,h2,ES.erase i h3⟩
theorem jh:∀ {l:List MapEntry}(i:Nat) (h:i<l.length),(l.map (·.born)).Nodup->l.filter (λx=>!(x.born == l[i].born))=l.eraseIdx i
 | [],_,h,_=>by simp at h
 | a::l,0,_,hn=>by
  simp only[List.map_cons,List.nodup_cons] at hn;simp only[List.getElem_cons_zero,List.filter_cons,beq_self_eq_true,Bool.not_true,Bool.false_eq_true,if_false,List.eraseIdx_cons_zero];rw[List.filter_eq_self];intro x hx;simp only[Bool.not_eq_true',beq_eq_false_iff_ne];exact λe=>hn.1 (e▸List.mem_map_of_mem hx)
 | a::l,i+1,h,hn=>by
  simp only[List.map_cons,List.nodup_cons] at hn;have hi:i<l.length:=by simpa using h
  have hne:a.born≠l[i].born:=λe=>hn.1 (e▸List.mem_map_of_mem (kM hi))
  simp only[List.getElem_cons_succ,List.filter_cons,List.eraseIdx_cons_succ];rw[if_pos (by simpa using hne),jh i hi hn.2]
theorem yo {l:List MapEntry}{seen:Array Nat}{e:MapEntry}:jf l (seen.push e.born)=(jf l seen).filter (λx=>!(x.born == e.born)):=by
 unfold jf;rw[List.filter_filter];congr 1;funext x;rw[contains_push];cases seen.contains x.born<;>cases(x.born == e.born)<;>rfl
theorem qt (R:Rel c h){i:Nat}{left:List (D×D)}{cur:Option (D×D)}{v:Value}(hg:h.get i=some (.iter left cur)) (hx:V c (.ptr i 0) v) (ty:TypeId) :
  (left=[]∧(Instr.next v false ty).run P c.w=.ok (.tuple #[.bool false]) c.w) ∨
  ∃ j,∃ hj:j<left.length,∃ y c',(Instr.next v false ty).run P c.w=.ok y c'.w∧V c' (.tup [.v (.bool true),left[j].1,left[j].2]) y∧Rel c' (h.set i (.iter (left.eraseIdx j) (some left[j])))∧aZ c h c' (h.set i (.iter (left.eraseIdx j) (some left[j])))∧c'.φ=c.φ:=by
 simp only[V] at hx;obtain⟨b,o,hφ,rfl⟩:=hx;obtain⟨b',o',h1,h1s,h2,bm,a,clock,since,last,seen,h3,h4,h5,h6,h7,h8,h9,_⟩:=R.live i _ hg;rw[hφ] at h1;injection h1 with h1;injection h1 with e1 e2;subst e1;subst e2;subst h2
 have hold:∀ x∈a.toList,x.born<since:=h6.1;have hleft:(leftOf a seen).toList=jf a.toList seen:=by unfold leftOf jf;rw[<-Array.toList_filter]
 rcases run_next_at (P:=P) c.w ty b bm since last seen a clock h3 h5 hold h7 with⟨h0,hrun⟩|⟨e,he,w1,hal,hrun⟩
 ·refine .inl ⟨ES.nil_iff h9 ?_,hrun⟩;rw[<-hleft];exact List.eq_nil_of_length_eq_zero (by simpa using h0)
 ·right;rw[hleft] at he;obtain⟨j,hj,rfl⟩:=List.getElem_of_mem he;obtain⟨hj',v1,v2⟩:=h9.at j hj;generalize hE:(jf a.toList seen)[j]=e at hrun v1 v2;have hmem:e∈a.toList:=by rw[<-hE];exact(List.mem_filter.1 (kM hj)).1
  have hnd:((jf a.toList seen).map (·.born)).Nodup:=(h6.2.sublist ((List.filter_sublist (p:=λe=>!seen.contains e.born) (l:=a.toList)).map (·.born)));have hl:jf a.toList (seen.push e.born)=(jf a.toList seen).eraseIdx j:=by rw[yo,<-hE,jh j hj hnd]
  have hw1:w1.heap=c.w.heap∧w1.os=c.w.os∧Tp w1 c.w∧w1.output=c.w.output:=by rcases hal with rfl|rfl<;>exact⟨rfl,rfl,⟨rfl,by first|exact kP _|exact Nat.le_succ _⟩,rfl⟩
  have hlt:b<c.w.heap.size:=(Array.getElem?_eq_some_iff.1 h3).1
  obtain⟨R2,G2⟩:=R.turn (box':=.iter (left.eraseIdx j) (some left[j])) (w':=ChangeMaps.setBlock w1 b (.mapIter (some bm) since (seen.push e.born) clock)) hg hφ hw1.2.1 ⟨hw1.2.2.1.tape,hw1.2.2.1.drawn⟩ hw1.2.2.2 (by simp[ChangeMaps.setBlock,hw1.1])
   (λk hk=>by simp only[ChangeMaps.setBlock,hw1.1];rw[Array.getElem?_setIfInBounds_ne (λe=>hk e.symm)]) (λe z hz=>by simp[World.shape?,h3] at hz) λK=>by
    refine⟨rfl,bm,a,clock,since,clock,seen.push e.born,?_,h4,?_,h6,h8,h8,?_,λk x hc=>?_⟩
    ·simp[ChangeMaps.setBlock,hw1.1,hlt]
    ·have hne:b≠bm:=λe1=>by rw[e1,h5] at h3;cases h3
     simp only[ChangeMaps.setBlock,hw1.1];rw[Array.getElem?_setIfInBounds_ne hne];exact h5
    ·rw[hl];exact(ES.keep K _ _ h9).erase j
    ·injection hc with hc
     refine⟨e,seen,rfl,hmem,rfl,?_,?_⟩
     ·have:=V.keep K _ _ v1;rw[hc] at this;exact this
     ·have:=V.keep K _ _ v2;rw[hc] at this;exact this
  refine⟨j,hj',_,_,hrun,?_,R2,G2,rfl⟩;simp only[V];exact⟨_,rfl,VS.cons (by simp[V,c7]) (VS.cons (V.keep G2.keeps _ _ v1) (VS.cons (V.keep G2.keeps _ _ v2) VS.nil))⟩
theorem wR (R:Rel c h){x d:D}{v:Value}(hd:rc h x=some d) (hx:V c x v) (ty:TypeId):∃ y,(Instr.next v false ty).run P c.w=.ok y c.w∧V c d y:=by
 unfold rc at hd;split at hd
 ·rename_i i;split at hd
  ·rename_i cur hg;simp only[kA] at hd;subst hd;rcases qt (P:=P) R hg hx ty with⟨_,hrun⟩|⟨j,hj,_⟩
   ·refine⟨_,hrun,?_⟩;simp only[V];exact⟨_,rfl,VS.cons (by simp[V,c7]) VS.nil⟩
   ·simp at hj
  ·simp at hd
 ·simp at hd
end
end Go.Am
