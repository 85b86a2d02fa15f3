/-
  The abstract machine: what Go code does to abstract values, and that it does so in the model. No condition beyond what each theorem says.
-/
import Derived.Test.YtihggclfifimoaaGreatDoorAmC
import Derived.DataReads
import Derived.Carry
import Derived.WideKeyArgs
set_option linter.unusedSectionVars false
/-
 The abstract machine,part 31: code over data that is not known,evaluated to a proposition: marks at every aw where something is to be shown,parted or said;the operations.
-/
namespace Go.Am
variable [GT]
structure Chk (p K:Prop):Prop where
 side:p
 go:K
structure Br (p K1 K2:Prop):Prop where
 yes:p->K1
 no:¬p->K2
structure Get (cs:List D) (off sz:Nat) (K:List D->Prop):Prop where
 le:off+sz<=cs.length
 go:K ((cs.drop off).take sz)
structure Put (cs:List D) (off:Nat) (ds:List D) (K:List D->Prop):Prop where
 le:off+ds.length<=cs.length
 go:K (splice cs off ds)
structure Idx (n:Nat) (cs:List D) (sz:Nat) (m:Int) (K:D->Prop):Prop where
 h0:0<=m
 h1:m.toNat<n
 h2:cs.length=n*sz
 go:K (.iptr ((cs.drop (m.toNat*sz)).take sz))
structure cA (id off n es:Nat) (m:Int) (K:D->Prop):Prop where
 h0:0<=m
 h1:m.toNat<n
 go:K (.ptr id (off+m.toNat*es))
structure FB (s:List UInt8) (m:Int) (K:D->Prop):Prop where
 h0:0<=m
 h1:m.toNat<s.length
 go:K (.v (.int .u8 (s[m.toNat]'h1).toNat))
structure Cll (P:Program) (g:FuncId) (ds:List D) (h:aB) (K:D->aB->Prop):Prop where
 ex:∃ d h',AC1 P g ds h d h'∧K d h'
structure Yll (P:Program) (id:Nat) (ds:List D) (h:aB) (K:D->aB->Prop):Prop where
 ex:∃ d h',Y1 P id ds h d h'∧K d h'
structure CY (P:Program) (g:FuncId) (ds:List D) (K:D->Prop):Prop where
 ex:∃ d,Pu P g ds d∧K d
structure cB (h:aB) (k:D) (es:List (D×D)) (K:Option (Nat×D)->Prop):Prop where
 ex:∃ r,bo h k es 0=some r∧K r
structure dC (h:aB) (es:Nat) (x:D) (K:Nat->List D->Prop):Prop where
 ex:∃ n xs,cE h es x=some (n,xs)∧K n xs
def inK (k:IntKind) (n:Int):Prop:=
 match k with
 | .i64=>-9223372036854775808<=n∧n<=9223372036854775807
 | k=>k.wrap n=n
theorem fg {n:Int}(h1:-9223372036854775808<=n) (h2:n<=9223372036854775807):inK .i64 n:=⟨h1,h2⟩
theorem iv {k:IntKind}{n:Int}(h:inK k n):k.wrap n=n:=by
 unfold inK at h;split at h
 ·obtain⟨h1,h2⟩:=h;unfold IntKind.wrap;simp only[IntKind.bits,IntKind.signed];simp;omega
 ·exact h
def mR (P:Program) (op:BinOp) (t:TypeId) (ox oy:Operand) (a b:D) (K:D->Prop):Prop:=
 match a,b with
 | .v (.int k m),.v (.int k' n)=>
  match op with
  | .lss=>if k=k' then Br (m<n) (K (boo true)) (K (boo false)) else False
  | .leq=>if k=k' then Br (m<=n) (K (boo true)) (K (boo false)) else False
  | .gtr=>if k=k' then Br (n<m) (K (boo true)) (K (boo false)) else False
  | .geq=>if k=k' then Br (n<=m) (K (boo true)) (K (boo false)) else False
  | .eql=>if k=k' then Br (m=n) (K (boo true)) (K (boo false)) else False
  | .neq=>if k=k' then Br (m=n) (K (boo false)) (K (boo true)) else False
  | .add=>if k=k' then Chk (inK k (m+n)) (K (.v (.int k (m+n)))) else False
  | .sub=>if k=k' then Chk (inK k (m-n)) (K (.v (.int k (m-n)))) else False
  | _=>match ba P op t ox oy a b with|some d=>K d|none=>False
 | .str u,.str v=>
  match op with
  | .eql=>Br (u=v) (K (boo true)) (K (boo false))
  | .neq=>Br (u=v) (K (boo false)) (K (boo true))
  | .add=>Chk (u.length+v.length<=ab) (K (.str (u++v)))
  | .lss=>Br (Op.bytesLess u v=true) (K (boo true)) (K (boo false))
  | .gtr=>Br (Op.bytesLess u v=true∨u=v) (K (boo false)) (K (boo true))
  | _=>match ba P op t ox oy a b with|some d=>K d|none=>False
 | _,_=>match ba P op t ox oy a b with|some d=>K d|none=>False
theorem mQ {P:Program}{op:BinOp}{t:TypeId}{ox oy:Operand}{a b:D}{K:D->Prop}(h:mR P op t ox oy a b K):∃ d,ba P op t ox oy a b=some d∧K d:=by
 have fall:(match ba P op t ox oy a b with|some d=>K d|none=>False)->∃ d,ba P op t ox oy a b=some d∧K d:=λh=>by
  split at h
  ·rename_i d hd;exact⟨d,hd,h⟩
  ·exact h.elim
 unfold mR at h;split at h
 ·rename_i k m k' n;have cmp:∀ (op:BinOp),binW P op t ox oy (.v (.int k m)) (.v (.int k' n)) K->∃ d,ba P op t ox oy (.v (.int k m)) (.v (.int k' n))=some d∧K d:=λop h=>mP h
  split at h
  ·split at h
   ·rename_i e;exact cmp _ ⟨e,h.yes,h.no⟩
   ·exact h.elim
  ·split at h
   ·rename_i e;exact cmp _ ⟨e,h.yes,h.no⟩
   ·exact h.elim
  ·split at h
   ·rename_i e;exact cmp _ ⟨e,h.yes,h.no⟩
   ·exact h.elim
  ·split at h
   ·rename_i e;exact cmp _ ⟨e,h.yes,h.no⟩
   ·exact h.elim
  ·split at h
   ·rename_i e;exact cmp _ ⟨e,h.yes,h.no⟩
   ·exact h.elim
  ·split at h
   ·rename_i e;exact cmp _ ⟨e,h.yes,h.no⟩
   ·exact h.elim
  ·split at h
   ·rename_i e;exact cmp _ ⟨e,iv h.side,h.go⟩
   ·exact h.elim
  ·split at h
   ·rename_i e;exact cmp _ ⟨e,iv h.side,h.go⟩
   ·exact h.elim
  ·exact fall h
 ·rename_i u v;split at h
  ·exact mP (op:=.eql) ⟨h.yes,h.no⟩
  ·exact mP (op:=.neq) ⟨h.yes,h.no⟩
  ·exact⟨_,by simp[ba,fv,h.side],h.go⟩
  ·by_cases hb:Op.bytesLess u v=true
   ·exact⟨_,by simp[ba,fv,hb],h.yes hb⟩
   ·exact⟨_,by simp only[ba,fv,Bool.eq_false_iff.2 hb],h.no hb⟩
  ·by_cases hb:Op.bytesLess u v=true∨u=v
   ·refine⟨_,?_,h.yes hb⟩
    have:(Op.bytesLess u v || u == v)=true:=by simpa using hb
    simp[ba,fv,this]
   ·refine⟨_,?_,h.no hb⟩
    have:(Op.bytesLess u v || u == v)=false:=by rw[Bool.eq_false_iff];simpa using hb
    simp[ba,fv,this]
  ·exact fall h
 ·exact fall h
def idxV (ti:TI) (t:TypeId) (x i:D) (K:D->Prop):Prop:=
 match x,i with
 | .imm n cs,.v (.int _ m)=>
  match ti t with
  | some a=>
   match a.u with
   | .slice e=>match ti e with|some ei=>if 0<ei.size then Idx n cs ei.size m K else False|none=>False
   | _=>False
  | none=>False
 | .sl id off n _ es _,.v (.int _ m)=>
  match ti t with
  | some a=>
   match a.u with
   | .slice e=>match ti e with|some ei=>if es=ei.size then cA id off n es m K else False|none=>False
   | _=>False
  | none=>False
 | .ptr id off,.v (.int _ m)=>
  match ti t with
  | some a=>
   match a.u with
   | .array n e=>match ti e with|some ei=>cA id off n ei.size m K|none=>False
   | _=>False
  | none=>False
 | _,_=>match cV ti t x i with|some d=>K d|none=>False
theorem yr {ti:TI}{t:TypeId}{x i:D}{K:D->Prop}(h:idxV ti t x i K):∃ d,cV ti t x i=some d∧K d:=by
 unfold idxV at h;split at h
 ·split at h
  ·rename_i a ha;split at h
   ·rename_i e hu;split at h
    ·rename_i ei hei;split at h
     ·rename_i hz;refine⟨_,?_,h.go⟩;unfold cV;simp only[ha,de,h.h0,if_true,hu,hei];rw[if_pos ⟨h.h1,h.h2,hz⟩]
     ·exact h.elim
    ·exact h.elim
   ·exact h.elim
  ·exact h.elim
 ·split at h
  ·rename_i a ha;split at h
   ·rename_i e hu;split at h
    ·rename_i ei hei;split at h
     ·rename_i he;refine⟨_,?_,h.go⟩;unfold cV;simp only[ha,de,h.h0,if_true,hu,hei];rw[if_pos ⟨h.h1,he⟩]
     ·exact h.elim
    ·exact h.elim
   ·exact h.elim
  ·exact h.elim
 ·split at h
  ·rename_i a ha;split at h
   ·rename_i n e hu;split at h
    ·rename_i ei hei;refine⟨_,?_,h.go⟩;unfold cV;simp only[ha,de,h.h0,if_true,hu,hei];rw[if_pos h.h1]
    ·exact h.elim
   ·exact h.elim
  ·exact h.elim
 ·split at h
  ·rename_i d hd;exact⟨d,hd,h⟩
  ·exact h.elim
def Fp (K:D->Prop):List D->Prop
 | [d]=>K d
 | _=>False
def D0 (ti:TI) (h:aB) (t:TypeId) (x:D) (K:D->Prop):Prop:=
 match ti t with
 | some a=>
  match x with
  | .iptr cs=>Get cs 0 a.size (λds=>if sD a.u then K (.agg ds) else Fp K ds)
  | .ptr id off=>
   match h.get id with
   | some (.cells cs _)=>Get cs off a.size (λds=>if sD a.u then K (.agg ds) else Fp K ds)
   | _=>False
  | _=>False
 | none=>False
theorem wg {ti:TI}{h:aB}{t:TypeId}{x:D}{K:D->Prop}(hl:D0 ti h t x K):∃ d,iH ti h t x=some d∧K d:=by
 unfold D0 at hl;split at hl
 ·rename_i a ha
  have key:∀ ds,(if sD a.u then K (.agg ds) else Fp K ds)->∃ d,d5 a.u ds=some d∧K d:=λds hk=>by
   unfold d5;split at hk
   ·rename_i hg;rw[if_pos hg];exact⟨_,rfl,hk⟩
   ·rename_i hg;rw[if_neg hg];unfold Fp at hk;split at hk
    ·rename_i d;exact⟨d,rfl,hk⟩
    ·exact hk.elim
  split at hl
  ·rename_i cs;unfold iH;simp only[ha];have:=hl.le
   rw[if_pos om];obtain⟨d,h1,h2⟩:=key _ hl.go;exact⟨d,by simpa using h1,h2⟩
  ·rename_i id off;split at hl
   ·rename_i cs _ hgt;unfold iH;simp only[ha,hgt];rw[if_pos hl.le];exact key _ hl.go
   ·exact hl.elim
  ·exact hl.elim
 ·exact hl.elim
def yJ (ti:TI) (h:aB) (t:TypeId) (a d:D) (K:aB->Prop):Prop:=
 match ti t with
 | some x=>
  match a with
  | .ptr id off=>
   match h.get id with
   | some (.cells cs ex)=>if(cU d).length=x.size then Chk (gW (cU d)=true) (Put cs off (cU d) (λcs'=>K (h.set id (.cells cs' ex)))) else False
   | _=>False
  | _=>False
 | none=>False
theorem th {ti:TI}{h:aB}{t:TypeId}{a d:D}{K:aB->Prop}(hs:yJ ti h t a d K):∃ h',iO ti h t a d=some h'∧K h':=by
 unfold yJ at hs;split at hs
 ·rename_i x hx;split at hs
  ·rename_i id off;split at hs
   ·rename_i cs ex hg;split at hs
    ·rename_i hc;refine⟨_,?_,hs.go.go⟩;unfold iO;simp only[hx,hg];rw[if_pos ⟨hc,by have:=hs.go.le;omega,hs.side⟩]
    ·exact hs.elim
   ·exact hs.elim
  ·exact hs.elim
 ·exact hs.elim
def Dx (ti:TI) (h:aB) (id:Nat) (t:TypeId) (l c:D) (K:D->aB->Prop):Prop:=
 match ti t with
 | some a=>
  match a.u with
  | .slice e=>
   match ti e with
   | some ei=>
    match l,c with
    | .v (.int _ n),.v (.int _ m)=>if 0<ei.size then Chk (0<=n∧n<=m∧m.toNat<=ab∧m.toNat*ei.bytes<=ab) (K (.sl id 0 n.toNat m.toNat ei.size true) (h.put id (.cells (cx ei.zero m.toNat) true))) else False
    | _,_=>False
   | none=>False
  | _=>False
 | none=>False
theorem wX {ti:TI}{h:aB}{id:Nat}{t:TypeId}{l c:D}{K:D->aB->Prop}(hs:Dx ti h id t l c K):∃ d h',dU ti h id t l c=some (d,h')∧K d h':=by
 unfold Dx at hs;split at hs
 ·rename_i a ha;split at hs
  ·rename_i e hu;split at hs
   ·rename_i ei hei;split at hs
    ·rename_i n m;split at hs
     ·rename_i hz;obtain⟨h1,h2,h3,h4⟩:=hs.side;refine⟨_,_,?_,hs.go⟩;unfold dU;simp only[ha,hu,hei,de,h1,if_true,show 0<=m from by omega];rw[if_pos ⟨by omega,h3,h4,hz⟩]
     ·exact hs.elim
    ·exact hs.elim
   ·exact hs.elim
  ·exact hs.elim
 ·exact hs.elim
def qf (d:Option D) (dflt:Int) (K:Int->Prop):Prop:=
 match d with
 | none=>K dflt
 | some (.v (.int _ n))=>K n
 | _=>False
def yR (ti:TI) (t:TypeId) (x:D) (lo hi mx:Option D) (K:D->Prop):Prop:=
 match ti t with
 | some a=>
  match a.u,x,mx with
  | .string,.str s,none=>qf lo 0 λl=>qf hi s.length λh=>Chk (0<=l∧l<=h∧h<=s.length) (K (.str ((s.drop l.toNat).take (h-l).toNat)))
  | .slice e,.imm n cs,none=>
   match ti e with
   | some ei=>qf lo 0 λl=>qf hi n λh=>Chk (0<=l∧l<=h∧h<=n∧cs.length=n*ei.size) (K (.imm (h-l).toNat ((cs.drop (l.toNat*ei.size)).take ((h-l).toNat*ei.size))))
   | none=>False
  | .slice e,.sl i off n cap es ex,none=>
   match ti e with
   | some ei=>if es=ei.size then qf lo 0 λl=>qf hi n λh=>Chk (0<=l∧l<=h∧h<=cap) (Br (l=cap) (K (.imm 0 [])) (K (.sl i (off+l.toNat*es) (h-l).toNat (cap-l.toNat) es ex))) else False
   | none=>False
  | .slice e,.sl i off _ cap es _,some (.v (.int _ m))=>
   match hi with
   | some (.v (.int _ h))=>
    match ti e with
    | some ei=>if es=ei.size then qf lo 0 λl=>Chk (0<=l∧l<=h∧h<=m∧m<=cap∧l<m) (K (.sl i (off+l.toNat*es) (h-l).toNat (m-l).toNat es true)) else False
    | none=>False
   | _=>False
  | _,_,_=>match dg ti t x lo hi mx with|some d=>K d|none=>False
 | none=>False
theorem eh {d:Option D}{n:Nat}{K:Int->Prop}(h:qf d n K):∃ m:Int,K m∧(0<=m->ca d n=some m.toNat):=by
 unfold qf at h;split at h
 ·exact⟨_,h,λ_=>by simp[ca]⟩
 ·rename_i k m;exact⟨m,h,λh0=>by simp[ca,de,h0]⟩
 ·exact h.elim
theorem tp {ti:TI}{t:TypeId}{x:D}{lo hi mx:Option D}{K:D->Prop}(hs:yR ti t x lo hi mx K):∃ d,dg ti t x lo hi mx=some d∧K d:=by
 unfold yR at hs;split at hs
 ·rename_i a ha
  have fall:∀ mx,(match dg ti t x lo hi mx with|some d=>K d|none=>False)->∃ d,dg ti t x lo hi mx=some d∧K d:=λmx h=>by
   split at h
   ·rename_i d hd;exact⟨d,hd,h⟩
   ·exact h.elim
  split at hs
  ·rename_i s hu;obtain⟨l,hs,hl⟩:=eh (n:=0) hs;obtain⟨h,hs,hh⟩:=eh (n:=s.length) hs;obtain⟨⟨h1,h2,h3⟩,hk⟩:=hs;refine⟨_,?_,hk⟩;unfold dg;simp only[ha,hu,hl h1,hh om];rw[if_pos ⟨by omega,by omega⟩];congr 3;omega
  ·rename_i e n cs hu;split at hs
   ·rename_i ei hei;obtain⟨l,hs,hl⟩:=eh (n:=0) hs;obtain⟨h,hs,hh⟩:=eh (n:=n) hs;obtain⟨⟨h1,h2,h3,h4⟩,hk⟩:=hs;refine⟨_,?_,hk⟩;unfold dg;simp only[ha,hu,hei,hl h1,hh om];rw[if_pos ⟨by omega,by omega,h4⟩];rw[show h.toNat-l.toNat=(h-l).toNat from by omega]
   ·exact hs.elim
  ·rename_i e i off n cap es ex hu;split at hs
   ·rename_i ei hei;split at hs
    ·rename_i he;obtain⟨l,hs,hl⟩:=eh (n:=0) hs;obtain⟨h,hs,hh⟩:=eh (n:=n) hs;obtain⟨⟨h1,h2,h3⟩,hk⟩:=hs;by_cases hc:l=cap
     ·refine⟨_,?_,hk.yes hc⟩;unfold dg;simp only[ha,hu,hei,hl h1,hh om];rw[if_pos ⟨he,by omega,by omega⟩,if_pos om]
     ·refine⟨_,?_,hk.no hc⟩;unfold dg;simp only[ha,hu,hei,hl h1,hh om];rw[if_pos ⟨he,by omega,by omega⟩,if_neg om];rw[show h.toNat-l.toNat=(h-l).toNat from by omega]
    ·exact hs.elim
   ·exact hs.elim
  ·rename_i e i off n cap es ex kd m hu;split at hs
   ·rename_i kd' h;split at hs
    ·rename_i ei hei;split at hs
     ·rename_i he;obtain⟨l,hs,hl⟩:=eh (n:=0) hs;obtain⟨⟨h1,h2,h3,h4,h5⟩,hk⟩:=hs;refine⟨_,?_,hk⟩;unfold dg;simp only[ha,hu,hei,hl h1,Option.bind_some,de,show(0:Int)<=h from by omega,show(0:Int)<=m from by omega,if_true];rw[if_pos ⟨he,by omega,by omega,by omega⟩,if_neg om];rw[show h.toNat-l.toNat=(h-l).toNat from by omega,show m.toNat-l.toNat=(m-l).toNat from by omega]
     ·exact hs.elim
    ·exact hs.elim
   ·exact hs.elim
  ·exact fall _ hs
 ·exact hs.elim
def yq (ti:TI) (t:TypeId) (x i:D) (K:D->Prop):Prop:=
 match x,i with
 | .str s,.v (.int _ m)=>
  match ti t with
  | some a=>match a.u with|.string=>FB s m K|_=>False
  | none=>False
 | _,_=>match ky ti t x i with|some d=>K d|none=>False
theorem uW {ti:TI}{t:TypeId}{x i:D}{K:D->Prop}(hs:yq ti t x i K):∃ d,ky ti t x i=some d∧K d:=by
 unfold yq at hs;split at hs
 ·rename_i s k m;split at hs
  ·rename_i a ha;split at hs
   ·rename_i hu;refine⟨_,?_,hs.go⟩;unfold ky;simp only[ha,de,hs.h0,if_true,hu];rw[List.getElem?_eq_getElem hs.h1]
   ·exact hs.elim
  ·exact hs.elim
 ·split at hs
  ·rename_i d hd;exact⟨d,hd,hs⟩
  ·exact hs.elim
def Dz (ti:TI) (h:aB) (t:TypeId) (m k:D) (ok:Bool) (K:D->Prop):Prop:=
 match ti t with
 | some a=>
  match a.u with
  | .map kt e=>
   match ti kt,ti e,nC h m with
   | some ka,some ea,some es=>
    if oH ti ka k=true then
     cB h k es λr=>
      match r with
      | some (_,x)=>K (if ok then .tup [x,.v (.bool true)] else x)
      | none=>K (if ok then .tup [ea.zeroD,.v (.bool false)] else ea.zeroD)
    else False
   | _,_,_=>False
  | _=>False
 | none=>False
theorem we {ti:TI}{h:aB}{t:TypeId}{m k:D}{ok:Bool}{K:D->Prop}(hs:Dz ti h t m k ok K):∃ d,fZ ti h t m k ok=some d∧K d:=by
 unfold Dz at hs;split at hs
 ·rename_i a ha;split at hs
  ·rename_i kt e hu;split at hs
   ·rename_i ka ea es h1 h2 h3;split at hs
    ·rename_i hk;obtain⟨r,hr,hK⟩:=hs.ex;unfold fZ;simp only[ha,hu,h1,h2,h3,hk,if_true,hr];cases r with
     | none=>exact⟨_,rfl,hK⟩
     | some p=>exact⟨_,rfl,hK⟩
    ·exact hs.elim
   ·exact hs.elim
  ·exact hs.elim
 ·exact hs.elim
def zz (ti:TI) (h:aB) (t:TypeId) (m k x:D) (K:aB->Prop):Prop:=
 match ti t with
 | some a=>
  match a.u with
  | .map kt _=>
   match ti kt,m with
   | some ka,.map id=>
    match h.get id with
    | some (.map es)=>
     if oH ti ka k=true then
      cB h k es λr=>
       match r with
       | some (i,_)=>K (h.set id (.map (es.set i (k,x))))
       | none=>K (h.set id (.map (es++[(k,x)])))
     else False
    | _=>False
   | _,_=>False
  | _=>False
 | none=>False
theorem ot {ti:TI}{h:aB}{t:TypeId}{m k x:D}{K:aB->Prop}(hs:zz ti h t m k x K):∃ h',fY ti h t m k x=some h'∧K h':=by
 unfold zz at hs;split at hs
 ·rename_i a ha;split at hs
  ·rename_i kt e hu;split at hs
   ·rename_i ka id h1;split at hs
    ·rename_i es hg;split at hs
     ·rename_i hk;obtain⟨r,hr,hK⟩:=hs.ex;unfold fY;simp only[ha,hu,h1,hg,hk,if_true,hr];cases r with
      | none=>exact⟨_,rfl,hK⟩
      | some p=>exact⟨_,rfl,hK⟩
     ·exact hs.elim
    ·exact hs.elim
   ·exact hs.elim
  ·exact hs.elim
 ·exact hs.elim
def EG (h:aB) (id:Nat) (u:TypeDesc) (ei:eH) (s x:D) (K:D->aB->Prop):Prop:=
 match u,s,x with
 | .int .i64,.v (.slice none 0 0),.v (.int .i64 n)=>Chk (0<n∧n<=1099511627776∧n.toNat*ei.bytes<=ab∧0<ei.size) (K (.sl id 0 n.toNat n.toNat ei.size false) (h.put id (.cells (cx ei.zero n.toNat) false)))
 | _,_,_=>False
theorem ww {h:aB}{id:Nat}{u:TypeDesc}{ei:eH}{s x:D}{K:D->aB->Prop}(hs:EG h id u ei s x K):∃ d h',rf h id u ei s x=some (d,h')∧K d h':=by
 unfold EG at hs;split at hs
 ·exact⟨_,_,by simp only[rf];rw[if_pos hs.side],hs.go⟩
 ·exact hs.elim
def appV (ti:TI) (h:aB) (id:Nat) (ts:List TypeId) (s x:D) (K:D->aB->Prop):Prop:=
 match ts with
 | st::xt::_=>
  match ti st,ti xt with
  | some a,some b=>
   match a.u with
   | .slice e=>
    match ti e with
    | some ei=>
     if A5 b.u=false then EG h id b.u ei s x K else
     dC h ei.size x λn xs=>
      match s with
      | .v (.slice none 0 0)=>Br (n=0) (K s h) (Chk (n*ei.bytes<=ab∧n<=ab) (K (.sl id 0 n n ei.size false) (h.put id (.cells xs false))))
      | .e0=>Br (n=0) (K .e0 h) (Chk (n*ei.bytes<=ab∧n<=ab) (K (.sl id 0 n n ei.size false) (h.put id (.cells xs false))))
      | .sl i off m cap es ex=>
       if es=ei.size then
       Chk (gW xs=true)
       (match h.get i with
       | some (.cells cs bx)=>
        Br (m+n<=cap)
         (Chk (off+(m+n)*es<=cs.length) (K (.sl i off (m+n) cap es ex) (h.set i (.cells (splice cs (off+m*es) xs) bx))))
         (Chk ((m+n)*ei.bytes<=ab∧m+n<=ab∧off+m*es<=cs.length)
          (K (.sl id 0 (m+n) (m+n) es false) ((if ex then h else h.del i).put id (.cells ((cs.drop off).take (m*es)++xs) false))))
       | _=>False)
       else False
      | _=>False
    | none=>False
   | _=>False
  | _,_=>False
 | _=>False
theorem zO {ti:TI}{h:aB}{id:Nat}{ts:List TypeId}{s x:D}{K:D->aB->Prop}(hs:appV ti h id ts s x K):∃ d h',e9 ti h id ts s x=some (d,h')∧K d h':=by
 unfold appV at hs;split at hs
 ·rename_i st xt _;split at hs
  ·rename_i a b ha hb;split at hs
   ·rename_i e hu;split at hs
    ·rename_i ei hei;split at hs
     ·rename_i hsu;obtain⟨d,h',h1,h2⟩:=ww hs;exact⟨d,h',by unfold e9;simp only[ha,hb,hu,hei,hsu,if_true,h1],h2⟩
     ·rename_i hsu;have hs':=hs.ex;clear hs;obtain⟨n,xs,hsrc,hs⟩:=hs';unfold e9;have hsu':(A5 b.u=false)=False:=eq_false hsu;simp only[ha,hb,hu,hei,hsu',if_false,hsrc];split at hs
      ·by_cases hn:n=0
       ·exact⟨_,_,by simp[hn],hs.yes hn⟩
       ·have:=hs.no hn
        exact⟨_,_,by simp only;rw[if_neg hn,if_pos this.side],this.go⟩
      ·by_cases hn:n=0
       ·exact⟨_,_,by simp[hn],hs.yes hn⟩
       ·have:=hs.no hn
        exact⟨_,_,by simp only;rw[if_neg hn,if_pos this.side],this.go⟩
      ·rename_i i off m cap es ex;split at hs
       ·rename_i he;obtain⟨ho,hs⟩:=hs;split at hs
        ·rename_i cs bx hg;simp only[he,ho,and_self,if_true,hg];by_cases hc:m+n<=cap
         ·have:=hs.yes hc
          refine⟨_,_,?_,this.go⟩;rw[if_pos hc,if_pos (by rw[<-he];exact this.side),he]
         ·have:=hs.no hc
          refine⟨_,_,?_,this.go⟩;rw[if_neg hc,if_pos (by rw[<-he];exact this.side),he]
        ·exact hs.elim
       ·exact hs.elim
      ·exact hs.elim
    ·exact hs.elim
   ·exact hs.elim
  ·exact hs.elim
 ·exact hs.elim
def yy (P:Program) (ti:TI) (tm:List D) (h:aB) (id:Nat) (o:Oper) (K:D->aB->Prop):Prop:=
 match aop P ti tm h id o with
 | some (d,h')=>K d h'
 | none=>False
def nthK (l:List D):Nat->(D->Prop)->Prop:=
 List.rec (motive:=λ_=>Nat->(D->Prop)->Prop) (λ_ _=>False) (λx _ ih n K=>Nat.casesOn (motive:=λ_=>Prop) n (K x) (λm=>ih m K)) l
def D7 (d:D) (K:D->Prop):Prop:=
 match d with
 | .any=>False
 | d=>K d
def r4 {α:Type}(o:Option α) (K:α->Prop):Prop:=
 match o with
 | some d=>K d
 | none=>False
def evK (tm:List D) (o:Operand) (K:D->Prop):Prop:=
 match o with
 | .tmp t=>nthK tm t (λd=>D7 d K)
 | .const v=>r4 (ofV v) K
 | .func f=>K (.fn (.func f) [] [])
 | .global g=>r4 ((GT.tab g).map .iptr) K
def rL (tm:List D) (xs:List Operand):(List D->Prop)->Prop:=
 List.rec (motive:=λ_=>(List D->Prop)->Prop) (λK=>K []) (λx _ ih K=>evK tm x (λd=>ih (λds=>K (d::ds)))) xs
def y5 (tm:List D) (o:Option Operand) (K:Option D->Prop):Prop:=
 match o with
 | some y=>evK tm y (λd=>K (some d))
 | none=>K none
def evO (tm:List D):Option Operand->Option (Option D)
 | some y=>(ev tm y).map some
 | none=>some none
theorem ql:∀ {l:List D}{n:Nat}{K:D->Prop},nthK l n K->∃ d,l[n]?=some d∧K d
 | [],_,_,h=>h.elim
 | x::_,0,_,h=>⟨x,rfl,h⟩
 | _::l,n+1,K,h=>by simpa using ql (l:=l) (n:=n) (K:=K) h
theorem eO {α:Type}{o:Option α}{K:α->Prop}(h:r4 o K):∃ d,o=some d∧K d:=by
 unfold r4 at h;split at h
 ·exact⟨_,rfl,h⟩
 ·exact h.elim
theorem ay {tm:List D}{o:Operand}{K:D->Prop}(h:evK tm o K):∃ d,ev tm o=some d∧K d:=by
 unfold evK at h;split at h
 ·obtain⟨d,h1,h2⟩:=ql h;unfold D7 at h2;split at h2
  ·exact h2.elim
  ·refine⟨d,?_,h2⟩;simp only[ev,List.getD,h1,Option.getD_some]
 ·exact eO h
 ·exact⟨_,rfl,h⟩
 ·exact eO h
theorem dR {tm:List D}:∀ {xs:List Operand}{K:List D->Prop},rL tm xs K->∃ ds,evs tm xs=some ds∧K ds
 | [],_,h=>⟨[],rfl,h⟩
 | x::xs,K,h=>by
  obtain⟨d,h1,h2⟩:=ay h;obtain⟨ds,h3,h4⟩:=dR h2;exact⟨d::ds,by simp only[evs,h1,h3],h4⟩
theorem kn {tm:List D}{o:Option Operand}{K:Option D->Prop}(h:y5 tm o K):∃ d,evO tm o=some d∧K d:=by
 unfold y5 at h;split at h
 ·obtain⟨d,h1,h2⟩:=ay h;exact⟨some d,by simp only[evO,h1,kF],h2⟩
 ·exact⟨none,rfl,h⟩
structure Cvs (cs:List D) (off n:Nat) (K:List UInt8->Prop):Prop where
 le:off+n<=cs.length
 ex:∃ l,dB ((cs.drop off).take n)=some l∧K l
def EZ (ti:TI) (h:aB) (src dst:TypeId) (i off n es:Nat) (K:D->Prop):Prop:=
 match ti src,ti dst with
 | some a,some b=>
  match a.u,b.u with
  | .slice e,.string=>
   match ti e with
   | some ei=>
    match ei.u with
    | .int .u8=>
     if es=1 then
      match h.get i with
      | some (.cells cs _)=>Cvs cs off n (λl=>K (.str l))
      | _=>False
     else False
    | _=>False
   | none=>False
  | _,_=>False
 | _,_=>False
theorem xT {P:Program}{ti:TI}{h:aB}{src dst:TypeId}{i off n cap es:Nat}{ex:Bool}{K:D->Prop}(hs:EZ ti h src dst i off n es K):∃ d,bt P ti h src dst (.sl i off n cap es ex)=some (d,h)∧K d:=by
 unfold EZ at hs;split at hs
 ·rename_i a b ha hb;split at hs
  ·rename_i e hau hbu;split at hs
   ·rename_i ei hei;split at hs
    ·rename_i heu;split at hs
     ·rename_i hes;split at hs
      ·rename_i cs bx hg;obtain⟨l,h1,h2⟩:=hs.ex;refine⟨.str l,?_,h2⟩;simp only[bt,ha,hb,hau,hbu,hei,gN,heu,hes,if_true,hg];rw[if_pos hs.le,h1];rfl
      ·exact hs.elim
     ·exact hs.elim
    ·exact hs.elim
   ·exact hs.elim
  ·exact hs.elim
 ·exact hs.elim
def mxV (P:Program) (ti:TI) (tm:List D) (h:aB) (id:Nat) (o:Oper) (b:Builtin) (ds:List D) (K:D->aB->Prop):Prop:=
 match ds with
 | [.v (.int k x),.v (.int _ y)]=>
  match b with
  | .max=>Br (x<y) (K (.v (.int k y)) h) (K (.v (.int k x)) h)
  | .min=>Br (y<x) (K (.v (.int k y)) h) (K (.v (.int k x)) h)
  | _=>yy P ti tm h id o K
 | _=>yy P ti tm h id o K
def EY (ti:TI) (h:aB) (ts:List TypeId) (d x:D) (K:D->aB->Prop):Prop:=
 match ts with
 | dt::_=>
  match ti dt with
  | some a=>
   match a.u with
   | .slice e=>
    match ti e with
    | some ei=>
     dC h ei.size x λn xs=>
      match d with
      | .sl i off m _ es _=>
       if es=ei.size then
       Chk (gW xs=true)
       (match h.get i with
       | some (.cells cs bx)=>Chk (off+m*es<=cs.length) (K (.v (.int .i64 (min n m:Nat))) (h.set i (.cells (splice cs off (xs.take (min n m*es))) bx)))
       | _=>False)
       else False
      | _=>False
    | none=>False
   | _=>False
  | none=>False
 | _=>False
theorem xS {ti:TI}{h:aB}{ts:List TypeId}{d x:D}{K:D->aB->Prop}(hs:EY ti h ts d x K):∃ r h',xo ti h ts d x=some (r,h')∧K r h':=by
 unfold EY at hs;split at hs
 ·rename_i dt _;split at hs
  ·rename_i a ha;split at hs
   ·rename_i e hu;split at hs
    ·rename_i ei hei;obtain⟨n,xs,hx,hs⟩:=hs.ex;split at hs
     ·rename_i i off m cap es ex;split at hs
      ·rename_i he;have h1:=hs.side;have hs:=hs.go;split at hs
       ·rename_i cs bx hg;refine⟨_,_,?_,hs.go⟩;unfold xo;simp only[ha,hu,hei,hx,hg];rw[if_pos ⟨he,h1⟩,if_pos hs.side]
       ·exact hs.elim
      ·exact hs.elim
     ·exact hs.elim
    ·exact hs.elim
   ·exact hs.elim
  ·exact hs.elim
 ·exact hs.elim
def opV (P:Program) (ti:TI) (tm:List D) (h:aB) (id:Nat) (o:Oper) (K:D->aB->Prop):Prop:=
 match o.op with
 | .move x=>evK tm x λd=>K d h
 | .assign x=>evK tm x λd=>K d h
 | .pick c a b=>evK tm c λd=>
  match d with
  | .v (.bool true)=>evK tm a λd=>K d h
  | .v (.bool false)=>evK tm b λd=>K d h
  | _=>False
 | .box _ x=>evK tm x λd=>K (.ptr id 0) (h.put id (.cells (cU d) true))
 | .binOp op t x y _=>evK tm x λa=>evK tm y λb=>mR P op t x y a b (λd=>K d h)
 | .indexAddr t x i=>evK tm x λa=>evK tm i λb=>idxV ti t a b (λd=>K d h)
 | .index t x i=>evK tm x λa=>evK tm i λb=>yq ti t a b (λd=>K d h)
 | .load t x=>evK tm x λa=>D0 ti h t a (λd=>K d h)
 | .store t a x=>evK tm a λd=>evK tm x λe=>yJ ti h t d e (λh'=>K aM h')
 | .makeSlice t l c=>evK tm l λa=>evK tm c λb=>Dx ti h id t a b K
 | .slice t x lo hi mx=>evK tm x λd=>y5 tm lo λl=>y5 tm hi λh'=>y5 tm mx λm=>yR ti t d l h' m (λd=>K d h)
 | .lookup t x i ok=>evK tm x λa=>evK tm i λb=>Dz ti h t a b ok (λd=>K d h)
 | .mapUpdate t m k x=>evK tm m λa=>evK tm k λb=>evK tm x λd=>zz ti h t a b d (λh'=>K aM h')
 | .insert t m k x=>evK tm m λa=>evK tm k λb=>evK tm x λd=>zz ti h t a b d (λh'=>K aM h')
 | .fieldAddr t x f=>evK tm x λd=>r4 (fQ ti t d f) λd=>K d h
 | .field t x f=>evK tm x λd=>r4 (oV ti t d f) λd=>K d h
 | .extract x i=>evK tm x λd=>
  match d with
  | .tup cs=>nthK cs i λd=>K d h
  | _=>False
 | .makeFunc fn first captured=>rL tm first.toList λa=>rL tm captured.toList λb=>K (.fn fn a b) h
 | .convert src dst x=>evK tm x λd=>
  match d with
  | .sl i off n _ es _=>EZ ti h src dst i off n es (λd=>K d h)
  | _=>yy P ti tm h id o K
 | .call c=>
  match c.callee with
  | .builtin .append=>rL tm c.args.toList λds=>
   match ds with
   | [s,x]=>appV ti h id c.argTypes.toList s x K
   | _=>False
  | .builtin .len=>rL tm c.args.toList λds=>
   match ds with
   | [x]=>r4 (fw ti h c.argTypes.toList x) λd=>K d h
   | _=>False
  | .builtin .copy=>rL tm c.args.toList λds=>
   match ds with
   | [d,x]=>EY ti h c.argTypes.toList d x K
   | _=>False
  | .builtin .max=>rL tm c.args.toList λds=>mxV P ti tm h id o .max ds K
  | .builtin .min=>rL tm c.args.toList λds=>mxV P ti tm h id o .min ds K
  | .builtin _=>yy P ti tm h id o K
  | _=>False
 | _=>yy P ti tm h id o K
theorem gc {P:Program}{ti:TI}{tm:List D}{h:aB}{id:Nat}{o:Oper}{K:D->aB->Prop}(hs:yy P ti tm h id o K):∃ d h',aop P ti tm h id o=some (d,h')∧K d h':=by
 unfold yy at hs;split at hs
 ·rename_i d h' hd;exact⟨d,h',hd,hs⟩
 ·exact hs.elim
theorem AB {P:Program}{ts:Array TypeId}{t:TypeId}{k k':IntKind}{x y:Int}:av P (Builtin.max_ ts t #[.int k x,.int k' y])=some (.int k (if x<y then y else x)):=rfl
theorem z8 {P:Program}{ts:Array TypeId}{t:TypeId}{k k':IntKind}{x y:Int}:av P (Builtin.min_ ts t #[.int k x,.int k' y])=some (.int k (if y<x then y else x)):=rfl
theorem sW {P:Program}{ti:TI}{tm:List D}{h:aB}{id:Nat}{o:Oper}{b:Builtin}{ds:List D}{K:D->aB->Prop}{c:Call}(ho:o.op=.call c) (hc:c.callee=.builtin b) (hx:evs tm c.args.toList=some ds)
  (hs:mxV P ti tm h id o b ds K):∃ d h',aop P ti tm h id o=some (d,h')∧K d h':=by
 unfold mxV at hs;split at hs
 ·rename_i k x k' y;split at hs
  ·by_cases hlt:x<y
   ·exact⟨_,_,by unfold aop;simp only[ho,hc,hx,ao,f8,ru,AB,ofV,kF,if_pos hlt],hs.yes hlt⟩
   ·exact⟨_,_,by unfold aop;simp only[ho,hc,hx,ao,f8,ru,AB,ofV,kF,if_neg hlt],hs.no hlt⟩
  ·by_cases hlt:y<x
   ·exact⟨_,_,by unfold aop;simp only[ho,hc,hx,ao,f8,ru,z8,ofV,kF,if_pos hlt],hs.yes hlt⟩
   ·exact⟨_,_,by unfold aop;simp only[ho,hc,hx,ao,f8,ru,z8,ofV,kF,if_neg hlt],hs.no hlt⟩
  ·exact gc hs
 ·exact gc hs
theorem bn {P:Program}{ti:TI}{tm:List D}{h:aB}{id:Nat}{o:Oper}{K:D->aB->Prop}(hs:opV P ti tm h id o K) :
  bc P tm o=none∧∃ d h',aop P ti tm h id o=some (d,h')∧K d h':=by
 have nocall:(∀ c,o.op=.call c->∃ b,c.callee=.builtin b)->bc P tm o=none:=λhn=>by
  unfold bc;split
  ·rename_i c hc;obtain⟨b,hb⟩:=hn c hc;rw[hb]
  ·rfl
 unfold opV at hs;split at hs
 ·rename_i x ho;refine⟨nocall λc hc=>(by rw[ho] at hc;cases hc),?_⟩;obtain⟨d,h1,h2⟩:=ay hs;exact⟨d,h,by unfold aop;simp only[ho,h1,kF],h2⟩
 ·rename_i x ho;refine⟨nocall λc hc=>(by rw[ho] at hc;cases hc),?_⟩;obtain⟨d,h1,h2⟩:=ay hs;exact⟨d,h,by unfold aop;simp only[ho,h1,kF],h2⟩
 ·rename_i c a b ho;refine⟨nocall λc hc=>(by rw[ho] at hc;cases hc),?_⟩;obtain⟨d,h1,h2⟩:=ay hs;split at h2
  ·obtain⟨d,h3,h4⟩:=ay h2;exact⟨d,h,by unfold aop;simp only[ho,h1,h3,if_true,kF],h4⟩
  ·obtain⟨d,h3,h4⟩:=ay h2;exact⟨d,h,by unfold aop;simp only[ho,h1,h3,Bool.false_eq_true,if_false,kF],h4⟩
  ·exact h2.elim
 ·rename_i t x ho;refine⟨nocall λc hc=>(by rw[ho] at hc;cases hc),?_⟩;obtain⟨d,h1,h2⟩:=ay hs;exact⟨_,_,by unfold aop;simp only[ho,h1,kF],h2⟩
 ·rename_i op t x y _ ho;refine⟨nocall λc hc=>(by rw[ho] at hc;cases hc),?_⟩;obtain⟨a,hx,hs⟩:=ay hs;obtain⟨b,hy,hs⟩:=ay hs;obtain⟨d,h1,h2⟩:=mQ hs;exact⟨d,h,by unfold aop;simp only[ho,hx,hy,h1,kF],h2⟩
 ·rename_i t x i ho;refine⟨nocall λc hc=>(by rw[ho] at hc;cases hc),?_⟩;obtain⟨a,hx,hs⟩:=ay hs;obtain⟨b,hy,hs⟩:=ay hs;obtain⟨d,h1,h2⟩:=yr hs;exact⟨d,h,by unfold aop;simp only[ho,hx,hy,h1,kF],h2⟩
 ·rename_i t x i ho;refine⟨nocall λc hc=>(by rw[ho] at hc;cases hc),?_⟩;obtain⟨a,hx,hs⟩:=ay hs;obtain⟨b,hy,hs⟩:=ay hs;obtain⟨d,h1,h2⟩:=uW hs;exact⟨d,h,by unfold aop;simp only[ho,hx,hy,h1,kF],h2⟩
 ·rename_i t x ho;refine⟨nocall λc hc=>(by rw[ho] at hc;cases hc),?_⟩;obtain⟨a,hx,hs⟩:=ay hs;obtain⟨d,h1,h2⟩:=wg hs;exact⟨d,h,by unfold aop;simp only[ho,hx,h1,kF],h2⟩
 ·rename_i t a x ho;refine⟨nocall λc hc=>(by rw[ho] at hc;cases hc),?_⟩;obtain⟨d,hx,hs⟩:=ay hs;obtain⟨e,hy,hs⟩:=ay hs;obtain⟨h',h1,h2⟩:=th hs;exact⟨_,h',by unfold aop;simp only[ho,hx,hy,h1,kF],h2⟩
 ·rename_i t l c ho;refine⟨nocall λc hc=>(by rw[ho] at hc;cases hc),?_⟩;obtain⟨a,hx,hs⟩:=ay hs;obtain⟨b,hy,hs⟩:=ay hs;obtain⟨d,h',h1,h2⟩:=wX hs;exact⟨d,h',by unfold aop;simp only[ho,hx,hy,h1],h2⟩
 ·rename_i t x lo hi mx ho;refine⟨nocall λc hc=>(by rw[ho] at hc;cases hc),?_⟩;obtain⟨d,hx,hs⟩:=ay hs;obtain⟨l,hl,hs⟩:=kn hs;obtain⟨h',hh,hs⟩:=kn hs;obtain⟨m,hm,hs⟩:=kn hs;obtain⟨d',h1,h2⟩:=tp hs;refine⟨d',h,?_,h2⟩
  have e:aop P ti tm h id o=(match ev tm x,evO tm lo,evO tm hi,evO tm mx with
   | some d,some l,some h',some m=>(dg ti t d l h' m).map (·,h)
   | _,_,_,_=>none):=by
   unfold aop;simp only[ho];cases lo<;>cases hi<;>cases mx<;>rfl
  rw[e,hx,hl,hh,hm];simp only[h1,kF]
 ·rename_i t x i ok ho;refine⟨nocall λc hc=>(by rw[ho] at hc;cases hc),?_⟩;obtain⟨a,hx,hs⟩:=ay hs;obtain⟨b,hy,hs⟩:=ay hs;obtain⟨d,h1,h2⟩:=we hs;exact⟨d,h,by unfold aop;simp only[ho,hx,hy,h1,kF],h2⟩
 ·rename_i t m k x ho;refine⟨nocall λc hc=>(by rw[ho] at hc;cases hc),?_⟩;obtain⟨a,hx,hs⟩:=ay hs;obtain⟨b,hy,hs⟩:=ay hs;obtain⟨d,hz,hs⟩:=ay hs;obtain⟨h',h1,h2⟩:=ot hs;exact⟨_,h',by unfold aop;simp only[ho,hx,hy,hz,h1,kF],h2⟩
 ·rename_i t m k x ho;refine⟨nocall λc hc=>(by rw[ho] at hc;cases hc),?_⟩;obtain⟨a,hx,hs⟩:=ay hs;obtain⟨b,hy,hs⟩:=ay hs;obtain⟨d,hz,hs⟩:=ay hs;obtain⟨h',h1,h2⟩:=ot hs;exact⟨_,h',by unfold aop;simp only[ho,hx,hy,hz,h1,kF],h2⟩
 ·rename_i t x f ho;refine⟨nocall λc hc=>(by rw[ho] at hc;cases hc),?_⟩;obtain⟨a,hx,hs⟩:=ay hs;obtain⟨d,h1,h2⟩:=eO hs;exact⟨d,h,by unfold aop;simp only[ho,hx,h1,kF],h2⟩
 ·rename_i t x f ho;refine⟨nocall λc hc=>(by rw[ho] at hc;cases hc),?_⟩;obtain⟨a,hx,hs⟩:=ay hs;obtain⟨d,h1,h2⟩:=eO hs;exact⟨d,h,by unfold aop;simp only[ho,hx,h1,kF],h2⟩
 ·rename_i x i ho;refine⟨nocall λc hc=>(by rw[ho] at hc;cases hc),?_⟩;obtain⟨a,hx,hs⟩:=ay hs;split at hs
  ·obtain⟨d,h1,h2⟩:=ql hs;exact⟨d,h,by unfold aop;simp only[ho,hx,h1,kF],h2⟩
  ·exact hs.elim
 ·rename_i fn first captured ho;refine⟨nocall λc hc=>(by rw[ho] at hc;cases hc),?_⟩;obtain⟨a,hx,hs⟩:=dR hs;obtain⟨b,hy,hs⟩:=dR hs;exact⟨_,h,by unfold aop;simp only[ho,hx,hy],hs⟩
 ·rename_i src dst x ho;refine⟨nocall λc hc=>(by rw[ho] at hc;cases hc),?_⟩;obtain⟨a,hx,hs⟩:=ay hs;split at hs
  ·obtain⟨d,h1,h2⟩:=xT (P:=P) hs;exact⟨d,h,by unfold aop;simp only[ho,hx];exact h1,h2⟩
  ·exact gc hs
 ·rename_i c ho;split at hs
  ·rename_i hcal;refine⟨nocall λc' hc=>⟨_,by rw[ho] at hc;injection hc with hc;subst hc;exact hcal⟩,?_⟩;obtain⟨ds,hx,hs⟩:=dR hs;split at hs
   ·obtain⟨d,h',h1,h2⟩:=zO hs;exact⟨d,h',by unfold aop;simp only[ho,hcal,hx,ao,h1],h2⟩
   ·exact hs.elim
  ·rename_i hcal;refine⟨nocall λc' hc=>⟨_,by rw[ho] at hc;injection hc with hc;subst hc;exact hcal⟩,?_⟩;obtain⟨ds,hx,hs⟩:=dR hs;split at hs
   ·obtain⟨d,h1,h2⟩:=eO hs;exact⟨d,h,by unfold aop;simp only[ho,hcal,hx,ao,h1,kF],h2⟩
   ·exact hs.elim
  ·rename_i hcal;refine⟨nocall λc' hc=>⟨_,by rw[ho] at hc;injection hc with hc;subst hc;exact hcal⟩,?_⟩;obtain⟨ds,hx,hs⟩:=dR hs;split at hs
   ·obtain⟨d,h',h1,h2⟩:=xS hs;exact⟨d,h',by unfold aop;simp only[ho,hcal,hx,ao,h1],h2⟩
   ·exact hs.elim
  ·rename_i hcal;obtain⟨ds,hx,hs⟩:=dR hs;exact⟨nocall λc' hc=>⟨_,by rw[ho] at hc;injection hc with hc;subst hc;exact hcal⟩,sW ho hcal hx hs⟩
  ·rename_i hcal;obtain⟨ds,hx,hs⟩:=dR hs;exact⟨nocall λc' hc=>⟨_,by rw[ho] at hc;injection hc with hc;subst hc;exact hcal⟩,sW ho hcal hx hs⟩
  ·rename_i hcal;exact⟨nocall λc' hc=>⟨_,by rw[ho] at hc;injection hc with hc;subst hc;exact hcal⟩,gc hs⟩
  ·exact hs.elim
 ·rename_i hno;exact⟨nocall λc hc=>absurd hc (hno c),gc hs⟩
end Go.Am
/-
 The abstract machine,part 32: code over data that is not known,evaluated to a proposition: regions,code,loops,forgetting;contracts of functions.
-/
namespace Go.Am
variable [GT]
def putK (l:List D):Nat->D->(List D->Prop)->Prop:=
 List.rec (motive:=λ_=>Nat->D->(List D->Prop)->Prop) (λ_ _ K=>K []) (λx l ih n d K=>Nat.casesOn (motive:=λ_=>Prop) n (K (d::l)) (λm=>ih m d (λl'=>K (x::l')))) l
theorem wB:∀ {l:List D}{n:Nat}{d:D}{K:List D->Prop},putK l n d K->K (l.set n d)
 | [],_,_,_,h=>h
 | _::_,0,_,_,h=>h
 | x::_,_+1,_,K,h=>wB (K:=λl'=>K (x::l')) h
def bh (tm:List D) (dst:Option Tmp) (d:D) (K:List D->Prop):Prop:=
 match dst with
 | some t=>putK tm t d K
 | none=>K tm
theorem ak {tm:List D}{dst:Option Tmp}{d:D}{K:List D->Prop}(h:bh tm dst d K):K (dp tm dst d):=by
 cases dst with
 | none=>exact h
 | some t=>exact wB h
def boxK (l:List (Nat×Box)):(List (Nat×Box)->Prop)->Prop:=
 List.rec (motive:=λ_=>(List (Nat×Box)->Prop)->Prop) (λK=>K []) (λp _ ih K=>Prod.casesOn (motive:=λ_=>Prop) p (λi b=>ih (λl'=>K ((i,b)::l')))) l
def o6 (h:aB) (K:aB->Prop):Prop:=
 match h with
 | ⟨n,bs⟩=>boxK bs (λbs=>K ⟨n,bs⟩)
theorem Aj:∀ {l:List (Nat×Box)}{K:List (Nat×Box)->Prop},boxK l K->K l
 | [],_,h=>h
 | (i,b)::_,K,h=>Aj (K:=λl'=>K ((i,b)::l')) h
theorem iw {h:aB}{K:aB->Prop}(hk:o6 h K):K h:=Aj (K:=λbs=>K ⟨h.next,bs⟩) hk
def lm (P:Program) (tm:List D) (o:Oper) (Kf:FuncId->List D->Prop) (Ky:Nat->List D->Prop) (Kn:Prop):Prop:=
 match o.op with
 | .call c=>
  match c.callee with
  | .value f=>evK tm f λd=>
   match d with
   | .fn (.func g) first captured=>rL tm c.args.toList λds=>Kf g (first++ds++captured)
   | .yf y=>rL tm c.args.toList λds=>Ky y ds
   | _=>False
  | .invoke r nm=>evK tm r λd=>
   match d with
   | .iface t d=>rL tm c.args.toList λds=>(match sX P t nm with|some g=>Kf g (d::ds)|none=>False)
   | _=>False
  | _=>Kn
 | _=>Kn
theorem fk {P:Program}{tm:List D}{o:Oper}{Kf:FuncId->List D->Prop}{Ky:Nat->List D->Prop}{Kn:Prop}(h:lm P tm o Kf Ky Kn) :
  (∃ g ds,bc P tm o=some (.fn g,ds)∧Kf g ds)∨(∃ y ds,bc P tm o=some (.yf y,ds)∧Ky y ds)∨Kn:=by
 unfold lm at h;split at h
 ·rename_i c ho;split at h
  ·rename_i f hc;obtain⟨d,h1,h⟩:=ay h;split at h
   ·obtain⟨ds,h2,h⟩:=dR h;exact .inl ⟨_,_,by unfold bc;simp only[ho,hc,h1,h2],h⟩
   ·obtain⟨ds,h2,h⟩:=dR h;exact .inr (.inl ⟨_,_,by unfold bc;simp only[ho,hc,h1,h2],h⟩)
   ·exact h.elim
  ·rename_i r nm hc;obtain⟨d,h1,h⟩:=ay h;split at h
   ·obtain⟨ds,h2,h⟩:=dR h;split at h
    ·rename_i g hm;exact .inl ⟨_,_,by unfold bc;simp only[ho,hc,h1,h2,hm],h⟩
    ·exact h.elim
   ·exact h.elim
  ·exact .inr (.inr h)
 ·exact .inr (.inr h)
structure zS (left:List (D×D)) (K0:Prop) (K1:Nat->D->D->Prop):Prop where
 over:left=[]->K0
 one:∀ j (hj:j<left.length),K1 j left[j].1 left[j].2
def HM (h:aB) (x:D) (K:D->aB->Prop):Prop:=
 match x with
 | .ptr i 0=>
  match h.get i with
  | some (.iter left _)=>zS left (K (.tup [.v (.bool false)]) h) (λj k x=>K (.tup [.v (.bool true),k,x]) (h.set i (.iter (left.eraseIdx j) (some (k,x)))))
  | _=>False
 | _=>False
def pe (ti:TI) (h:aB) (t:TypeId) (id off:Nat) (lo hi:Option D):Option D:=
 match ti t,h.get id with
 | some a,some (.cells cs _)=>
  match a.u with
  | .array n e=>
   match ti e,ca lo 0,ca hi n with
   | some ei,some l,some k=>if l<=k∧k<=n∧l<n∧off+n*ei.size<=cs.length then some (.sl id (off+l*ei.size) (k-l) (n-l) ei.size true) else none
   | _,_,_=>none
  | _=>none
 | _,_=>none
theorem tq {P:Program}{ti:TI}{c:Ctx}{h:aB}(T:TOk P ti) (R:Rel c h){t:TypeId}{id off:Nat}{lo hi:Option D}{lo' hi':Option Value}{d:D}{v:Value}(hd:pe ti h t id off lo hi=some d) (hx:V c (.ptr id off) v) (hl:OV c lo lo') (hh:OV c hi hi') :
  ∃ y,(Instr.sliceAt t v lo' hi' none).run P c.w=.ok y c.w∧V c d y:=by
 unfold pe at hd;split at hd
 ·rename_i a cs ex ha hg;obtain⟨hu,_⟩:=T.ok t a ha;split at hd
  ·rename_i n e he;rw[he] at hu;split at hd
   ·rename_i ei l k hei hl1 hk;obtain⟨_,i,z,hi1,hs,_⟩:=T.ok e ei hei;split at hd
    ·rename_i hc;obtain⟨c0,c1,c2,c3⟩:=hc;simp only[kA] at hd;subst hd;simp only[V] at hx;obtain⟨b,o,hφ,rfl⟩:=hx;obtain⟨b',o',h1,_,arr,ty,pre,ys,tl,h3,h4,h5,h6,_⟩:=R.live id _ hg;rw[hφ] at h1;injection h1 with h1;injection h1 with e1 e2;subst e1;subst e2
     have hb:=cK (P:=P) (b:=false) (len:=n) (cap:=n) (ap hl1 hl) (ap hk hh) c0 c1 c.w;have hm:l*ei.size+(n-l)*ei.size=n*ei.size:=by rw[<-Nat.add_mul,Nat.add_sub_cancel' om]
     refine⟨.slice (some ⟨b,o+(off+l*ei.size),none⟩) (k-l) (n-l),?_,?_⟩
     ·simp only[Instr.sliceAt,Instr.sureAddr,Sem.run_bind,run_underlying hu,Result.andThen,Sem.run_pure,hb,ai hi1,Addr.add];rw[if_neg om,hs,Nat.add_assoc];by_cases h0:l*ei.size=0
      ·rw[if_pos h0,h0,Nat.add_zero]
      ·rw[if_neg h0]
     ·have hsz:arr.size=o+cs.length+tl.length:=by
       have:=congrArg List.length h4
       simp only[Array.length_toList,kG,h5,h6.length] at this;omega
      simp only[V];refine⟨b,o,n-l,ty,arr.size,hφ,rfl,by omega,kP _,λ_=>rfl,by simp[World.shape?,h3],?_⟩;omega
    ·simp at hd
   ·simp at hd
  ·simp at hd
 ·simp at hd
def tu (ti:TI) (h:aB) (t:TypeId) (id off:Nat) (lo hi:Option D) (K:D->aB->Prop):Prop:=
 match ti t with
 | some a=>
  match h.get id with
  | some (.cells cs _)=>
   match a.u with
   | .array n e=>
    match ti e with
    | some ei=>qf lo 0 λl=>qf hi n λk=>Chk (0<=l∧l<=k∧k<=n∧l<n∧off+n*ei.size<=cs.length) (K (.sl id (off+l.toNat*ei.size) (k-l).toNat (n-l.toNat) ei.size true) h)
    | none=>False
   | _=>False
  | _=>False
 | none=>False
theorem rx {ti:TI}{h:aB}{t:TypeId}{id off:Nat}{lo hi:Option D}{K:D->aB->Prop}(hs:tu ti h t id off lo hi K):∃ d,pe ti h t id off lo hi=some d∧K d h:=by
 unfold tu at hs;split at hs
 ·rename_i a ha;split at hs
  ·rename_i cs ex hg;split at hs
   ·rename_i n e hu;split at hs
    ·rename_i ei hei;obtain⟨l,hs,hl⟩:=eh (n:=0) hs;obtain⟨k,hs,hk⟩:=eh (n:=n) hs;obtain⟨⟨h1,h2,h3,h4,h5⟩,hs⟩:=hs;refine⟨_,?_,hs⟩;unfold pe;simp only[ha,hg,hu,hei,hl h1,hk om];rw[if_pos ⟨by omega,by omega,by omega,h5⟩,show k.toNat-l.toNat=(k-l).toNat from by omega]
    ·exact hs.elim
   ·exact hs.elim
  ·exact hs.elim
 ·exact hs.elim
def zj (P:Program) (ti:TI) (tm:List D) (h:aB) (id:Nat) (o:Oper) (K:D->aB->Prop):Prop:=
 match o.op with
 | .next x false=>evK tm x λd=>HM h d K
 | .slice t x lo hi none=>evK tm x λd=>
  match d with
  | .ptr i off=>y5 tm lo λl=>y5 tm hi λk=>tu ti h t i off l k K
  | _=>lm P tm o (λg ds=>Cll P g ds h K) (λy ds=>Yll P y ds h K) (opV P ti tm h id o K)
 | _=>lm P tm o (λg ds=>Cll P g ds h K) (λy ds=>Yll P y ds h K) (opV P ti tm h id o K)
def stepsV (P:Program) (ti:TI) (ops:Array Oper) (o:Oper) (ih:List D->aB->Prop) (tm:List D) (h:aB):Prop:=
 match h with
 | ⟨n,bs⟩=>
  match af ops tm o with
  | some true=>zj P ti tm ⟨n+1,bs⟩ n o (λd h'=>bh tm o.dst d (λtm'=>o6 h' (λh'=>ih tm' h')))
  | some false=>bh tm o.dst aM (λtm'=>ih tm' ⟨n,bs⟩)
  | none=>False
def DY (P:Program) (ti:TI) (ops:Array Oper) (l:List Oper):List D->aB->(List D->aB->Prop)->Prop:=
 List.rec (motive:=λ_=>List D->aB->(List D->aB->Prop)->Prop) (λtm h K=>K tm h) (λo _ ih tm h K=>stepsV P ti ops o (λtm h=>ih tm h K) tm h) l
def frV (g:FuncId) (ds:List D) (d:D) (m:fA) (K:Prop):Prop:=
 List.rec (motive:=λ_=>Prop) K (λe _ ih=>if g=e.1 then Chk (ds=e.2.1->e.2.2=d) ih else ih) m
def yK (P:Program) (ti:TI) (ops:Array Oper) (h:aB) (o:Oper) (ih:List D->fA->Prop) (tm:List D) (mm:fA):Prop:=
 match af ops tm o with
 | some true=>
  match kind o with
  | .alloc=>False
  | .write=>
   lm P tm o (λg ds=>CY P g ds (λd=>frV g ds d mm (bh tm o.dst d (λtm'=>ih tm' ((g,ds,d)::mm))))) (λ_ _=>False) False
  | _=>opV P ti tm h 0 o (λd _=>bh tm o.dst d (λtm'=>ih tm' mm))
 | some false=>bh tm o.dst aM (λtm'=>ih tm' mm)
 | none=>False
def Fo (P:Program) (ti:TI) (ops:Array Oper) (h:aB) (l:List Oper):List D->fA->(List D->Prop)->Prop:=
 List.rec (motive:=λ_=>List D->fA->(List D->Prop)->Prop) (λtm _ K=>K tm) (λo _ ih tm mm K=>yK P ti ops h o (λtm mm=>ih tm mm K) tm mm) l
def DH (ops:Array Oper):Bool:=b6 ops&&nY ops
structure vA (P:Program) (ti:TI) (ops:Array Oper) (tm:List D) (n:Nat) (bs:List (Nat×Box)) (K:St->Prop):Prop where
 ok:DH ops=true
 go:Fo P ti ops ⟨n+ops.size,bs⟩ ops.toList tm [] (λtm=>K ⟨tm,⟨n+ops.size,bs⟩⟩)
structure Base (nb:Nat) (cb:Ctx) (hb:aB) (c:Ctx) (h:aB):Prop where
 next:hb.next=nb
 fresh:∀ id,nb<=id->cb.φ id=none
 grow:aZ cb hb c h
 φ:∀ j,j<nb->c.φ j=cb.φ j
structure Sv (P:Program) (nb:Nat) (code:Code) (Q:Exit->St->Prop) (s:St):Prop where
 run:∀ (cb:Ctx) (hb:aB) (c:Ctx) (a:Act) (R:Exit->Act->World->Prop),Base nb cb hb c s.h->Fit c s a ->
  (∀ e s' c' a',Q e s'->Fit c' s' a'->Base nb cb hb c' s'.h->a'.defers=a.defers->R e a' c'.w)->code.wpIn (WF none) 0 P R a c.w
structure aX (P:Program) (nb:Nat) (id:Nat) (ops:Array Oper) (Q:Exit->St->Prop) (s:St):Prop where
 run:Sv P nb (.region id ops true) Q s
structure cm (P:Program) (nb:Nat) (code:Code) (Q:Exit->St->Prop) (s:St):Prop where
 run:Sv P nb code Q s
structure aH (P:Program) (nb:Nat) (code:Code) (Q:Exit->St->Prop) (s:St):Prop where
 run:Sv P nb (.loop code) Q s
def calm (ops:Array Oper):Bool:=ops.toList.all λo=>match kind o with|.alloc=>false|.write=>(match o.op with|.call c=>(match c.callee with|.value _=>true|_=>false)|_=>false)|_=>true
def regV (P:Program) (ti:TI) (nb id:Nat) (ops:Array Oper) (draw:Bool) (Q:Exit->St->Prop) (s:St):Prop:=
 match draw,s with
 | false,⟨tm,h⟩=>DY P ti ops ops.toList tm h (λtm h=>Q .normal ⟨tm,h⟩)
 | true,⟨tm,⟨n,bs⟩⟩=>if calm ops then vA P ti ops tm n bs (Q .normal) else aX P nb id ops Q ⟨tm,⟨n,bs⟩⟩
def Ea (o:Operand) (x y:(Exit->St->Prop)->St->Prop) (Q:Exit->St->Prop) (s:St):Prop:=
 match s with
 | ⟨tm,h⟩=>
  match ev tm o with
  | some (.v (.bool true))=>x Q ⟨tm,h⟩
  | some (.v (.bool false))=>y Q ⟨tm,h⟩
  | _=>False
def gR (P:Program) (ti:TI) (nb:Nat) (code:Code):(Exit->St->Prop)->St->Prop:=
 Code.rec (motive:=λ_=>(Exit->St->Prop)->St->Prop)
  (skip:=λQ s=>Q .normal s)
  (region:=λid ops d=>regV P ti nb id ops d)
  (seq:=λ_ b x _ Q s=>x (jb (cm P nb b Q) Q) s)
  (cond:=λo _ _ x y=>Ea o x y)
  (block:=λid _ x Q s=>x (zK id Q) s)
  (loop:=λc _ Q s=>aH P nb c Q s)
  (rangeFunc:=λ_ _ _ _ _ _ _ _=>False)
  (exit:=λid Q s=>Q (.exit id) s)
  (scope:=λ_ _ _ _=>False)
  (label:=λ_ _ _=>False)
  (goto:=λ_ _ _=>False)
  (ret:=λQ s=>Q .ret s)
  (refuse:=λ_ _ _=>False)
  code
section
variable {P:Program}{ti:TI}
theorem xg {tm:List D}{h:aB}{id:Nat}{o:Oper}{K:D->aB->Prop}(hs:lm P tm o (λg ds=>Cll P g ds h K) (λy ds=>Yll P y ds h K) (opV P ti tm h id o K)):∃ cl:Cl,gm P cl∧∃ d h',bU P ti cl tm h id o=some (d,h')∧K d h':=by
 rcases fk hs with⟨g,ds,hac,hs⟩|⟨y,ds,hac,hs⟩|hs
 ·obtain⟨d,h',h1,h2⟩:=hs.ex;refine⟨λk ds' h0=>open Classical in if k=.fn g∧ds'=ds∧h0=h then some (d,h') else none,λk ds' h0 d' h1' hx=>?_,d,h',?_,h2⟩
  ·simp only at hx;split at hx
   ·rename_i e;obtain⟨rfl,rfl,rfl⟩:=e;simp only[kA,kB] at hx;obtain⟨rfl,rfl⟩:=hx;exact h1
   ·simp at hx
  ·unfold bU;rw[hac];simp
 ·obtain⟨d,h',h1,h2⟩:=hs.ex;refine⟨λk ds' h0=>open Classical in if k=.yf y∧ds'=ds∧h0=h then some (d,h') else none,λk ds' h0 d' h1' hx=>?_,d,h',?_,h2⟩
  ·simp only at hx;split at hx
   ·rename_i e;obtain⟨rfl,rfl,rfl⟩:=e;simp only[kA,kB] at hx;obtain⟨rfl,rfl⟩:=hx;exact h1
   ·simp at hx
  ·unfold bU;rw[hac];simp
 ·obtain⟨hac,d,h',h1,h2⟩:=bn hs;exact⟨λ_ _ _=>none,λk ds h d h' hx=>by simp at hx,d,h',by unfold bU;rw[hac];exact h1,h2⟩
theorem C1 {ro:Option Nat}{n:Nat}(T:TOk P ti){tm:List D}{h:aB}{id:Nat}{o:Oper}{K:D->aB->Prop}(hs:zj P ti tm h id o K){c:Ctx}{a:Act}(R:Rel c h) (hf:c.φ id=none) (hn:id<h.next) (ht:VS c tm a.tmps.toList){KK:Act->World->Prop}{Q:Exit->Act->World->Prop}
  (hK:∀ d h' v c',K d h'->V c' d v->Rel c' h'->aZ c h c' h'->(∀ j,j<h.next->j≠id->c'.φ j=c.φ j)->KK (a.put o.dst v) c'.w):o.wpIn (WF ro) n P a c.w KK Q:=by
 have hcall:lm P tm o (λg ds=>Cll P g ds h K) (λy ds=>Yll P y ds h K) (opV P ti tm h id o K)->o.wpIn (WF ro) n P a c.w KK Q:=λhs=>by
  obtain⟨cl,hcl,d,h',hd,hk⟩:=xg hs;exact jz T hcl R hf hn ht hd λv c' k1 k2 k3 k4=>hK d h' v c' hk k1 k2 k3 k4
 unfold zj at hs;split at hs
 ·rename_i x ho;have hnd:∀ cc,o.op≠.defer cc:=λcc hcc=>by rw[ho] at hcc;cases hcc
  obtain⟨d,h1,hs⟩:=ay hs;have hx:=aI R.inv ht h1;unfold HM at hs;split at hs
  ·rename_i i;split at hs
   ·rename_i left cur hg;have he:execOp a.eval o=(do pure (.value (<-Instr.next (a.eval x) false o.type))):=by unfold execOp;simp only[ho]
    rcases qt (P:=P) R hg hx o.type with⟨hl,hrun⟩|⟨j,hj,y,c',hrun,hv,R',G',hφ⟩
    ·have ok:pO P a o c h id (.tup [.v (.bool false)]) h:=.same R he ⟨_,hrun,by simp only[V];exact⟨_,rfl,VS.cons (by simp[V,c7]) VS.nil⟩⟩;exact fy hnd ok λv c' k1 k2 k3 k4=>hK _ _ v c' (hs.over hl) k1 k2 k3 k4
    ·have ok:pO P a o c h id (.tup [.v (.bool true),left[j].1,left[j].2]) (h.set i (.iter (left.eraseIdx j) (some left[j]))):=.made he ⟨y,c',hrun,hv,R',G',λj _=>by rw[hφ]⟩;exact fy hnd ok λv c' k1 k2 k3 k4=>hK _ _ v c' (hs.one j hj) k1 k2 k3 k4
   ·exact hs.elim
  ·exact hs.elim
 ·rename_i t x lo hi ho;have hnd:∀ cc,o.op≠.defer cc:=λcc hcc=>by rw[ho] at hcc;cases hcc
  obtain⟨d,h1,hs⟩:=ay hs;have hx:=aI R.inv ht h1;split at hs
  ·rename_i i off;obtain⟨l,h0,hs⟩:=kn hs;obtain⟨k,h2,hs⟩:=kn hs;obtain⟨d',h3,hs⟩:=rx hs
   have ok:pO P a o c h id d' h:=by
    refine .same R (s:=Instr.sliceAt t (a.eval x) (lo.map a.eval) (hi.map a.eval) none) (by unfold execOp;simp only[ho];rfl) (tq T R h3 hx ?_ ?_)
    ·cases lo with
     | none=>simp only[evO,kA] at h0;subst h0;simp[OV]
     | some y=>
      simp only[evO,kJ] at h0;obtain⟨e,h4,rfl⟩:=h0;exact aI R.inv ht h4
    cases hi with
    | none=>simp only[evO,kA] at h2;subst h2;simp[OV]
    | some y=>
     simp only[evO,kJ] at h2;obtain⟨e,h4,rfl⟩:=h2;exact aI R.inv ht h4
   exact fy hnd ok λv c' k1 k2 k3 k4=>hK _ _ v c' hs k1 k2 k3 k4
  ·exact hcall hs
 ·exact hcall hs
theorem pS {ro:Option Nat}{n:Nat}(T:TOk P ti) (ops:Array Oper):∀ (l:List Oper) (tm:List D) (h:aB) (K:List D->aB->Prop) (c:Ctx) (a:Act) (Q:Exit->Act->World->Prop),DY P ti ops l tm h K->Fit c ⟨tm,h⟩ a ->
  (∀ tm' h' c' a',K tm' h'->Fit c' ⟨tm',h'⟩ a'->aZ c h c' h'->(∀ j,j<h.next->c'.φ j=c.φ j)->a'.defers=a.defers->Q .normal a' c'.w)->wpListIn (WF ro) n P ops Q l a c.w
 | [],tm,h,K,c,a,Q,hr,hfit,hQ=>hQ tm h c a hr hfit (aZ.refl _ _) (λ_ _=>rfl) rfl
 | o::l,tm,h,K,c,a,Q,hr,hfit,hQ=>by
  replace hr:(match af ops tm o with
   | some true=>zj P ti tm ⟨h.next+1,h.bs⟩ h.next o (λd h'=>bh tm o.dst d (λtm'=>o6 h' (λh'=>DY P ti ops l tm' h' K)))
   | some false=>bh tm o.dst aM (λtm'=>DY P ti ops l tm' ⟨h.next,h.bs⟩ K)
   | none=>False):=hr
  simp only[wpListIn];split at hr
  ·rename_i hw;rw[bO hfit.tmps hw,if_pos rfl];refine C1 T (h:=bump h 1) (id:=h.next) hr hfit.rel.bump (hfit.rel.fresh _ (kP _)) (by simp[bump]) hfit.tmps λd h' v c' hk k1 k2 k3 k4=>?_
   have hk:=iw (ak hk);refine pS T ops l _ h' K c' (a.put o.dst v) Q hk ⟨k2,bg (VS.keep k3.keeps _ _ hfit.tmps) k1⟩ λtm2 h2 c2 a2 ks f2 g2 p2 df2=>?_
   refine hQ tm2 h2 c2 a2 ks f2 (k3.bump.trans g2) (λj hj=>?_) (by rw[df2];cases o.dst<;>rfl);have h1:j<h'.next:=by have:=k3.next;simp only[bump] at this;omega
   rw[p2 j h1,k4 j (by simp only[bump];omega) (Nat.ne_of_lt hj)]
  ·rename_i hw;rw[bO hfit.tmps hw,if_neg si];have hr:=ak hr;refine⟨λ_ _=>trivial,pS T ops l _ h K c (a.put o.dst undef) Q hr ⟨hfit.rel,bg hfit.tmps V.undef⟩ λtm2 h2 c2 a2 ks f2 g2 p2 df2=>?_⟩;exact hQ tm2 h2 c2 a2 ks f2 g2 p2 (by rw[df2];cases o.dst<;>rfl)
  ·exact hr.elim
theorem kj {g:FuncId}{ds:List D}{d:D}{K:Prop}:∀ {m:fA},frV g ds d m K->K∧∀ d',(g,ds,d')∈m->d'=d
 | [],h=>⟨h,λd' hd=>by simp at hd⟩
 | (g',ds',d0)::m,h=>by
  replace h:(if g=g' then Chk (ds=ds'->d0=d) (frV g ds d m K) else frV g ds d m K):=h
  split at h
  ·rename_i e;obtain⟨h1,h2⟩:=kj h.go;refine⟨h1,λd' hd=>?_⟩;rcases List.mem_cons.1 hd with hd|hd
   ·simp only[kB] at hd;obtain⟨_,h3,h4⟩:=hd;rw[h4];exact h.side h3
   ·exact h2 d' hd
  ·rename_i e;obtain⟨h1,h2⟩:=kj h;refine⟨h1,λd' hd=>?_⟩;rcases List.mem_cons.1 hd with hd|hd
   ·simp only[kB] at hd;exact absurd hd.1 e
   ·exact h2 d' hd
theorem jM (ops:Array Oper) (h:aB):∀ (l:List Oper) (tm:List D) (mm:fA) (K:List D->Prop),Fo P ti ops h l tm mm K->rp mm ->
  ∃ mm2 tm',K tm'∧rp (mm2++mm)∧(∀ e∈mm2,Pu P e.1 e.2.1 e.2.2)∧∀ t:Tab,(∀ e∈mm2,iK t e.1 e.2.1=some e.2.2)->c6 P ti t ops h l tm=some tm'
 | [],tm,mm,K,hq,hF=>⟨[],tm,hq,hF,λe he=>by simp at he,λt _=>rfl⟩
 | o::l,tm,mm,K,hq,hF=>by
  replace hq:yK P ti ops h o (λtm mm=>Fo P ti ops h l tm mm K) tm mm:=hq
  unfold yK at hq;split at hq
  ·rename_i hw
   have other:(∀ x,kind o=x->x≠.alloc->x≠.write->opV P ti tm h 0 o (λd _=>bh tm o.dst d (λtm'=>Fo P ti ops h l tm' mm K)) ->
     ∃ mm2 tm',K tm'∧rp (mm2++mm)∧(∀ e∈mm2,Pu P e.1 e.2.1 e.2.2)∧∀ t:Tab,(∀ e∈mm2,iK t e.1 e.2.1=some e.2.2)->c6 P ti t ops h (o::l) tm=some tm'):=λx hk n1 n2 hq=>by
    obtain⟨hac,d,h',h1,h2⟩:=bn hq;obtain⟨mm2,tm',k1,k2,k3,k4⟩:=jM ops h l _ mm K (ak h2) hF;refine⟨mm2,tm',k1,k2,k3,λt ht=>?_⟩;simp only[c6,hw];cases x with
    | alloc=>exact absurd rfl n1
    | write=>exact absurd rfl n2
    | pure=>simp only[hk,h1];exact k4 t ht
    | read=>simp only[hk,h1];exact k4 t ht
   split at hq
   ·exact hq.elim
   ·rename_i hk;rcases fk hq with⟨g,ds,hac,hq⟩|⟨_,_,_,hq⟩|hq
    ·obtain⟨d,hpu,hq⟩:=hq.ex;obtain⟨hq,hfr⟩:=kj hq
     have hF':rp ((g,ds,d)::mm):=λg1 ds1 d1 d2 m1 m2=>by
      rcases List.mem_cons.1 m1 with x1|x1<;>rcases List.mem_cons.1 m2 with x2|x2
      ·simp only[kB] at x1 x2;rw[x1.2.2,x2.2.2]
      ·simp only[kB] at x1;obtain⟨rfl,rfl,rfl⟩:=x1;exact(hfr d2 x2).symm
      ·simp only[kB] at x2;obtain⟨rfl,rfl,rfl⟩:=x2;exact hfr d1 x1
      ·exact hF _ _ _ _ x1 x2
     obtain⟨mm2,tm',k1,k2,k3,k4⟩:=jM ops h l _ _ K (ak hq) hF';refine⟨mm2++[(g,ds,d)],tm',k1,by simpa using k2,λe he=>?_,λt ht=>?_⟩
     ·rcases List.mem_append.1 he with he|he
      ·exact k3 e he
      ·simp at he;subst he;exact hpu
     ·simp only[c6,hw,hk,hac,ht (g,ds,d) si];exact k4 t (λe he=>ht e (by simp[he]))
    ·exact hq.elim
    ·exact hq.elim
   ·rename_i n1 n2;exact other _ rfl n1 n2 hq
  ·rename_i hw;obtain⟨mm2,tm',k1,k2,k3,k4⟩:=jM ops h l _ mm K (ak hq) hF;refine⟨mm2,tm',k1,k2,k3,λt ht=>?_⟩;simp only[c6,hw];exact k4 t ht
  ·exact hq.elim
noncomputable def Cv (m:fA):List FuncId->Tab
 | []=>[]
 | g::l=>(g,lkM m g)::Cv m l
theorem vP {m:fA}{g:FuncId}{ds:List D}:∀ {l:List FuncId},g∈l->iK (Cv m l) g ds=lkM m g ds
 | [],h=>by simp at h
 | g' :: l,h=>by
  simp only[Cv,iK];split
  ·rename_i e;rw[e]
  ·rename_i e;rcases List.mem_cons.1 h with h|h
   ·exact absurd h.symm e
   ·exact vP h
theorem zi {m:fA}(hp:∀ e∈m,Pu P e.1 e.2.1 e.2.2):∀ l,i8 P (Cv m l)
 | []=>i8.nil
 | _::l=>i8.cons (λ_ _ h=>hp _ (nF h)) (zi hp l)
theorem SW.quietV (hm:P.follows .mixedOrders=true) (T:TOk P ti){id:Nat}{ops:Array Oper}{Q:Exit->St->Prop}{s:St}(hq:vA P ti ops s.tmps s.h.next s.h.bs (Q .normal)):SW P (.region id ops true) Q s:=by
 obtain⟨mm2,tm',k1,k2,k3,k4⟩:=jM ops _ _ _ _ _ hq.go (λ_ _ _ _ h=>by simp at h);rw[List.append_nil] at k2;have hok:=hq.ok;simp only[DH,kC] at hok;have hr:=k4 (Cv mm2 (mm2.map (·.1))) (λe he=>by rw[vP (List.mem_map_of_mem he)];exact pW k2 (by exact he));intro c a R hf hR;exact fO hm T (zi k3 _).cl mI hok.1 (yd hok.2 hr) hf λc' a' f1 g1 p1 d1=>hR _ _ c' a' k1 f1 g1 p1 d1
theorem Base.trans {nb:Nat}{cb c c':Ctx}{hb h h':aB}(b:Base nb cb hb c h) (g:aZ c h c' h') (p:∀ j,j<h.next->c'.φ j=c.φ j):Base nb cb hb c' h':=
 ⟨b.next,b.fresh,b.grow.trans g,λj hj=>by have:=b.grow.next;have:=b.next;rw[p j om,b.φ j hj]⟩
theorem Sv.of_sw {nb:Nat}{code:Code}{Q:Exit->St->Prop}{s:St}(h:SW P code Q s):Sv P nb code Q s:=⟨λ_ _ c a R hB hf hR=>
 h c a R hf λe s' c' a' q f g p d=>hR e s' c' a' q f (hB.trans g p) d⟩
theorem Sv.seq {nb:Nat}{x y:Code}{Q:Exit->St->Prop}{s:St}(h:Sv P nb x (jb (Sv P nb y Q) Q) s):Sv P nb (.seq x y) Q s:=⟨λcb hb c a R hB hf hR=>by
 refine wpIn_seq (h.run cb hb c a _ hB hf λe s1 c1 a1 hq f1 b1 d1=>?_);cases e with
 | normal=>exact hq.run cb hb c1 a1 R b1 f1 λe s2 c2 a2 hq2 f2 b2 d2=>hR e s2 c2 a2 hq2 f2 b2 (d2.trans d1)
 | _=>exact hR _ s1 c1 a1 hq f1 b1 d1⟩
theorem Sv.mono {nb:Nat}{x:Code}{Q Q':Exit->St->Prop}{s:St}(h:Sv P nb x Q s) (hq:∀ e s,Q e s->Q' e s):Sv P nb x Q' s:=
 ⟨λcb hb c a R hB hf hR=>h.run cb hb c a R hB hf λe s1 c1 a1 q=>hR e s1 c1 a1 (hq e s1 q)⟩
theorem Sv.block {nb id:Nat}{x:Code}{Q:Exit->St->Prop}{s:St}(h:Sv P nb x (zK id Q) s):Sv P nb (.block id x) Q s:=⟨λcb hb c a R hB hf hR=>by
 refine wpIn_block (h.run cb hb c a _ hB hf λe s1 c1 a1 hq f1 b1 d1=>?_);cases e with
 | exit i=>
  simp only[zK] at hq;simp only[Exit.inBlock];split
  ·rename_i hi;rw[if_pos hi] at hq;exact hR _ s1 c1 a1 hq f1 b1 d1
  ·rename_i hi;rw[if_neg hi] at hq;exact hR _ s1 c1 a1 hq f1 b1 d1
 | _=>exact hR _ s1 c1 a1 hq f1 b1 d1⟩
theorem Sv.cond {nb:Nat}{o:Operand}{x y:Code}{b:Bool}{Q:Exit->St->Prop}{s:St}(hc:ev s.tmps o=some (.v (.bool b))) (h:Sv P nb (if b then x else y) Q s):Sv P nb (.cond o x y) Q s:=⟨λcb hb c a R hB hf hR=>by
 have hv:=aI hf.rel.inv hf.tmps hc;simp only[V] at hv
 exact wpIn_cond hv.2 (h.run cb hb c a R hB hf hR)⟩
theorem bK (hm:P.follows .mixedOrders=true) (T:TOk P ti){nb:Nat}:∀ (code:Code) (Q:Exit->St->Prop) (s:St),gR P ti nb code Q s->Sv P nb code Q s
 | .skip,Q,s,h=>.of_sw (SW.skip h)
 | .region id ops false,Q,s,h=>.of_sw λc a _ hf hR=>wpIn_region_list (pS T ops _ _ _ _ c a _ h hf λtm' h' c' a' hk f1 g1 p1 d1=>hR _ ⟨tm',h'⟩ c' a' hk f1 g1 p1 d1)
 | .region id ops true,Q,⟨tm,⟨n,bs⟩⟩,h=>by
  replace h:(if calm ops then vA P ti ops tm n bs (Q .normal) else aX P nb id ops Q ⟨tm,⟨n,bs⟩⟩):=h
  split at h
  ·exact .of_sw (SW.quietV hm T h)
  ·exact h.run
 | .seq x y,Q,s,h=>.seq ((bK hm T x _ s h).mono λe s1 q=>by
   cases e with
   | normal=>exact q.run
   | _=>exact q)
 | .cond o x y,Q,⟨tm,hp⟩,h=>by
  replace h:Ea o (gR P ti nb x) (gR P ti nb y) Q ⟨tm,hp⟩:=h
  unfold Ea at h;simp only at h;split at h
  ·rename_i hc;exact .cond hc (bK hm T x Q _ h)
  ·rename_i hc;exact .cond hc (bK hm T y Q _ h)
  ·exact h.elim
 | .block id x,Q,s,h=>.block (bK hm T x _ s h)
 | .loop x,Q,s,h=>h.run
 | .exit id,Q,s,h=>.of_sw (SW.exit h)
 | .ret,Q,s,h=>.of_sw (SW.ret h)
 | .rangeFunc ..,Q,s,h=>h.elim
 | .scope _,Q,s,h=>h.elim
 | .label _,Q,s,h=>h.elim
 | .goto _,Q,s,h=>h.elim
 | .refuse _,Q,s,h=>h.elim
end
mutual
inductive Rd (h:aB) (fz:Nat->Bool) (σ:Nat->Option Nat):D->D->Prop
 | any {d}:Rd h fz σ d .any
 | same {d} (hn:aL d=true):Rd h fz σ d d
 | sl {id id' off n cap es ex} (hs:σ id'=some id):Rd h fz σ (.sl id off n cap es ex) (.sl id' off n cap es ex)
 | slx {id id' off n cap es} (hs:σ id'=some id):Rd h fz σ (.sl id off n cap es true) (.sl id' off n cap es false)
 | ptr {id id' off} (hs:σ id'=some id):Rd h fz σ (.ptr id off) (.ptr id' off)
 | map {id id'} (hs:σ id'=some id):Rd h fz σ (.map id) (.map id')
 | yf {id id'} (hs:σ id'=some id):Rd h fz σ (.yf id) (.yf id')
 | agg {cs cs'} (hc:Rds h fz σ cs cs'):Rd h fz σ (.agg cs) (.agg cs')
 | tup {cs cs'} (hc:Rds h fz σ cs cs'):Rd h fz σ (.tup cs) (.tup cs')
 | fn {f a a' b b'} (ha:Rds h fz σ a a') (hb:Rds h fz σ b b'):Rd h fz σ (.fn f a b) (.fn f a' b')
 | imm {n cs cs'} (hc:Rds h fz σ cs cs'):Rd h fz σ (.imm n cs) (.imm n cs')
 | iface {t d d'} (hc:Rd h fz σ d d'):Rd h fz σ (.iface t d) (.iface t d')
 | nil:Rd h fz σ (.v (.slice none 0 0)) (.imm 0 [])
 | e0:Rd h fz σ .e0 (.imm 0 [])
 | frz {id off n cap es ex cs bx cs'} (hf:fz id=true) (hg:h.get id=some (.cells cs bx)) (hl:off+n*es<=cs.length) (hc:Rds h fz σ ((cs.drop off).take (n*es)) cs'):Rd h fz σ (.sl id off n cap es ex) (.imm n cs')
 | frzp {id off cs bx cs'} (hf:fz id=true) (hg:h.get id=some (.cells cs bx)) (hc:Rds h fz σ (cs.drop off) cs'):Rd h fz σ (.ptr id off) (.iptr cs')
inductive Rds (h:aB) (fz:Nat->Bool) (σ:Nat->Option Nat):List D->List D->Prop
 | nil:Rds h fz σ [] []
 | cons {d d' ds ds'} (hd:Rd h fz σ d d') (hs:Rds h fz σ ds ds'):Rds h fz σ (d::ds) (d' :: ds')
 | same {ds} (hn:aK ds=true):Rds h fz σ ds ds
end
structure ri (c:Ctx) (h:aB) (fz:Nat->Bool) (σ:Nat->Option Nat) (c0:Ctx):Prop where
 rel:Rel c h
 w:c0.w=c.w
 S:∀ b,c.S b->c0.S b
 fz:∀ id b o box,fz id=true->h.get id=some box->c.φ id=some (b,o)->c0.S b
 φ:∀ id' id,σ id'=some id->c0.φ id'=c.φ id
mutual
theorem Rd.sound {c c0:Ctx}{h:aB}{fz:Nat->Bool}{σ:Nat->Option Nat}(T:ri c h fz σ c0):∀ {d d0:D},Rd h fz σ d d0->∀ y,V c d y->V c0 d0 y
 | _,_,.any,y,_=>by simp only[V]
 | d,_,.same hn,y,hv=>V.move (c:=c) (c':=c0) (λb hb=>⟨T.S b hb,by rw[T.w]⟩) d y hn hv
 | _,_,.sl hs,y,hv=>by
  simp only[V] at hv ⊢;rw[T.φ _ _ hs,T.w];exact hv
 | _,_,.slx hs,y,hv=>by
  simp only[V] at hv ⊢;rw[T.φ _ _ hs,T.w];obtain⟨b,o,cap',e,z,h1,h2,h3,h4,_,h6,h7⟩:=hv;exact⟨b,o,cap',e,z,h1,h2,h3,h4,λh=>absurd h si,h6,h7⟩
 | _,_,.ptr hs,y,hv=>by
  simp only[V] at hv ⊢;rw[T.φ _ _ hs];exact hv
 | _,_,.map hs,y,hv=>by
  simp only[V] at hv ⊢;rw[T.φ _ _ hs];exact hv
 | _,_,.yf hs,y,hv=>by
  simp only[V] at hv ⊢;rw[T.φ _ _ hs];exact hv
 | _,_,.agg hc,y,hv=>by
  simp only[V] at hv ⊢;obtain⟨ys,e,h2⟩:=hv;exact⟨ys,e,Rds.sound T hc ys h2⟩
 | _,_,.tup hc,y,hv=>by
  simp only[V] at hv ⊢;obtain⟨ys,e,h2⟩:=hv;exact⟨ys,e,Rds.sound T hc ys h2⟩
 | _,_,.fn ha hb,y,hv=>by
  simp only[V] at hv ⊢;obtain⟨xs,ys,e,h2,h3⟩:=hv;exact⟨xs,ys,e,Rds.sound T ha xs h2,Rds.sound T hb ys h3⟩
 | _,_,.imm hc,y,hv=>by
  simp only[V] at hv ⊢;obtain⟨a,cap,ys,e1,hc',h2,h3⟩:=hv;exact⟨a,cap,ys,e1,hc',Rds.sound T hc ys h2,h3.imp id λ⟨b,o,ha,hs,hh⟩=>⟨b,o,ha,T.S b hs,by rw[T.w];exact hh⟩⟩
 | _,_,.iface hc,y,hv=>by
  simp only[V] at hv ⊢;obtain⟨x,e1,h2⟩:=hv;exact⟨x,e1,Rd.sound T hc x h2⟩
 | _,_,.nil,y,hv=>by
  simp only[V] at hv ⊢;exact⟨none,0,[],hv.2,kP _,VS.nil,.inl rfl⟩
 | _,_,.e0,y,hv=>by
  simp only[V] at hv ⊢;obtain⟨a,e⟩:=hv;exact⟨a,0,[],e,kP _,VS.nil,.inl rfl⟩
 | _,_,.frz (id:=id) (off:=off) (n:=n) (es:=es) (cs:=cs) hf hg hl hc,y,hv=>by
  simp only[V] at hv;obtain⟨b,o,cap',e,z,p1,rfl,p3,p4,p5,p6,p7⟩:=hv;obtain⟨b',o',ys,z',q1,q2,q3,_,_⟩:=gM T.rel hg;rw[p1] at q1;injection q1 with q1;injection q1 with e1 e2;subst e1;subst e2
  have hvs:VS c ((cs.drop off).take (n*es)) ((ys.drop off).take (n*es)):=(q2.drop off).take _;have k1:=Rds.sound T hc _ hvs;simp only[V];exact⟨_,cap',_,rfl,Nat.le_trans p3 p4,k1,.inr ⟨b,o+off,rfl,T.fz _ _ _ _ hf hg p1,by rw[T.w];exact q3.sub off _⟩⟩
 | _,_,.frzp (id:=id) (off:=off) (cs:=cs) hf hg hc,y,hv=>by
  simp only[V] at hv;obtain⟨b,o,p1,rfl⟩:=hv;obtain⟨b',o',ys,z',q1,q2,q3,_,_⟩:=gM T.rel hg;rw[p1] at q1;injection q1 with q1;injection q1 with e1 e2;subst e1;subst e2
  have k1:=Rds.sound T hc _ (q2.drop off);simp only[V];refine⟨b,o+off,ys.drop off,rfl,k1,.inr ⟨T.fz _ _ _ _ hf hg p1,?_⟩⟩;have:=q3.sub off ys.length
  rw[T.w]
  rwa [kE si] at this
theorem Rds.sound {c c0:Ctx}{h:aB}{fz:Nat->Bool}{σ:Nat->Option Nat}(T:ri c h fz σ c0):∀ {ds ds0:List D},Rds h fz σ ds ds0->∀ ys,VS c ds ys->VS c0 ds0 ys
 | _,_,.nil,ys,hv=>by simp only[VS] at hv ⊢;exact hv
 | _,_,.cons hd hs,ys,hv=>by
  obtain⟨y,ys',rfl,h1,h2⟩:=hv.inv;exact VS.cons (Rd.sound T hd y h1) (Rds.sound T hs ys' h2)
 | ds,_,.same hn,ys,hv=>VS.move (c:=c) (c':=c0) (λb hb=>⟨T.S b hb,by rw[T.w]⟩) ds ys hn hv
end
end Go.Am
/-
 The abstract machine,part 33: forgetting and numbering anew between states;loops;contracts of functions.
-/
namespace Go.Am
variable [GT]
inductive Res (h:aB) (fz:Nat->Bool) (σ:Nat->Option Nat):List (D×D)->List (D×D)->Prop
 | nil:Res h fz σ [] []
 | cons {k k' x x' es es'} (hk:Rd h fz σ k k') (hx:Rd h fz σ x x') (hs:Res h fz σ es es'):Res h fz σ ((k,x)::es) ((k',x')::es')
 | same {es} (hn:∀ p∈es,aL p.1=true∧aL p.2=true):Res h fz σ es es
inductive Rb (h:aB) (fz:Nat->Bool) (σ:Nat->Option Nat):Box->Box->Prop
 | cells {cs cs' ex ex'} (hc:Rds h fz σ cs cs') (he:(!ex' || ex)=true):Rb h fz σ (.cells cs ex) (.cells cs' ex')
 | map {es es'} (he:Res h fz σ es es'):Rb h fz σ (.map es) (.map es')
 | loop {st pend tm tm' ps assign body} (ht:Rds h fz σ tm tm'):Rb h fz σ (.loop st pend tm ps assign body) (.loop st pend tm' ps assign body)
 | dfr:Rb h fz σ .dfr .dfr
 | iter {es es' cur} (he:Res h fz σ es es'):Rb h fz σ (.iter es cur) (.iter es' none)
theorem Res.sound {c c0:Ctx}{h:aB}{fz:Nat->Bool}{σ:Nat->Option Nat}(T:ri c h fz σ c0):∀ {es es0:List (D×D)},Res h fz σ es es0->∀ l,ES c es l->ES c0 es0 l:=by
 intro es es0 hr
 induction hr with
 | nil=>intro l hl;simpa only[ES] using hl
 | cons hk hx _ ih=>
  intro l hl;simp only[ES] at hl ⊢;obtain⟨e,l',h1,h2,h3,h4⟩:=hl;exact⟨e,l',h1,hk.sound T _ h2,hx.sound T _ h3,ih _ h4⟩
 | @same es hn=>
  intro l
  induction es generalizing l with
  | nil=>intro hl;simpa only[ES] using hl
  | cons p es ih=>
   intro hl;obtain⟨k,x⟩:=p;simp only[ES] at hl ⊢;obtain⟨e,l',h1,h2,h3,h4⟩:=hl;have:=hn (k,x) si
   exact⟨e,l',h1,(Rd.same this.1).sound T _ h2,(Rd.same this.2).sound T _ h3,ih (λp hp=>hn p (by simp[hp])) _ h4⟩
theorem Rb.sound {c c0:Ctx}{h:aB}{fz:Nat->Bool}{σ:Nat->Option Nat}(T:ri c h fz σ c0){b o:Nat}{box box0:Box}(hr:Rb h fz σ box box0) (hb:BR c b o box):BR c0 b o box0:=by
 cases hr with
 | cells hc he=>
  simp only[BR] at hb ⊢;obtain⟨a,e,pre,ys,tl,h1,h2,h3,h4,h5⟩:=hb;refine⟨a,e,pre,ys,tl,by rw[T.w];exact h1,h2,h3,hc.sound T _ h4,λhx=>h5 ?_⟩;simp only[hx,Bool.not_true,Bool.false_or] at he;exact he
 | map he=>
  simp only[BR] at hb ⊢;obtain⟨h0,a,clock,h1,h2,h3⟩:=hb;exact⟨h0,a,clock,by rw[T.w];exact h1,he.sound T _ h2,h3⟩
 | iter he=>
  simp only[BR] at hb ⊢;obtain⟨h0,bm,a,clock,since,last,seen,h1,h2,h3,h4,h5,h6,h7,_⟩:=hb;exact⟨h0,bm,a,clock,since,last,seen,by rw[T.w];exact h1,T.S bm h2,by rw[T.w];exact h3,h4,h5,h6,he.sound T _ h7,λ_ _ hx=>by cases hx⟩
 | loop ht=>
  simp only[BR] at hb ⊢;obtain⟨h0,L,h1,h2,h3,h4,h5⟩:=hb;exact⟨h0,L,by rw[T.w];exact h1,h2,h3,ht.sound T _ h4,h5⟩
 | dfr=>
  simp only[BR] at hb ⊢;exact⟨hb.1,by rw[T.w];exact hb.2⟩
def sprS (ih:Nat->List (Nat×D)->List D) (i:Nat) (l:List (Nat×D)):List D:=
 match l with
 | []=>.any::ih (i+1) []
 | (j,d)::l=>if i=j then d::ih (i+1) l else .any::ih (i+1) ((j,d)::l)
def spr (i k:Nat) (l:List (Nat×D)):List D:=
 Nat.rec (motive:=λ_=>Nat->List (Nat×D)->List D) (λ_ _=>[]) (λ_ ih=>sprS ih) k i l
abbrev tmp (n:Nat) (l:List (Nat×D)):List D:=spr 0 n l
inductive rr (h:aB) (fz:Nat->Bool) (σ:Nat->Option Nat) (tm:List D):List (Nat×D)->Prop
 | nil:rr h fz σ tm []
 | cons {j d l x} (hx:tm[j]?=some x) (hd:Rd h fz σ x d) (hl:rr h fz σ tm l):rr h fz σ tm ((j,d)::l)
theorem rr.mem {h:aB}{fz:Nat->Bool}{σ:Nat->Option Nat}{tm:List D}{l:List (Nat×D)}(he:rr h fz σ tm l):∀ j d,(j,d)∈l->∃ x,tm[j]?=some x∧Rd h fz σ x d:=by
 induction he with
 | nil=>intro j d hm;simp at hm
 | cons hx hd _ ih=>
  intro j d hm;rcases List.mem_cons.1 hm with hm|hm
  ·simp only[kB] at hm;obtain⟨rfl,rfl⟩:=hm;exact⟨_,hx,hd⟩
  ·exact ih j d hm
theorem lG {c0:Ctx}{L:List (Nat×D)}{all:List Value}(hL:∀ j d,(j,d)∈L->∃ y,all[j]?=some y∧V c0 d y):∀ (k i:Nat) (l:List (Nat×D)),(∀ p∈l,p∈L)->i+k=all.length->VS c0 (spr i k l) (all.drop i)
 | 0,i,l,_,hk=>by rw[List.drop_eq_nil_of_le om];exact VS.nil
 | k+1,i,[],hs,hk=>by
  rw[kK om];show VS c0 (.any::spr (i+1) k []) _;exact VS.cons (by simp only[V]) (lG hL k (i+1) [] hs om)
 | k+1,i,(j,d)::l,hs,hk=>by
  rw[kK om];show VS c0 (if i=j then d::spr (i+1) k l else .any::spr (i+1) k ((j,d)::l)) _;split
  ·rename_i e;subst e;obtain⟨y,h1,h2⟩:=hL i d (hs _ si);rw[List.getElem?_eq_getElem om] at h1;injection h1 with h1
   rw[h1];exact VS.cons h2 (lG hL k (i+1) l (λp hp=>hs p (by simp[hp])) om)
  ·exact VS.cons (by simp only[V]) (lG hL k (i+1) ((j,d)::l) hs om)
def lkN:List (Nat×Nat)->Nat->Option Nat
 | [],_=>none
 | (a,b)::l,j=>if a=j then some b else lkN l j
def sgm (nb:Nat) (σl:List (Nat×Nat)) (j:Nat):Option Nat:=if j<nb then some j else lkN σl j
def fzn (fzl:List Nat) (id:Nat):Bool:=fzl.contains id
def fq (nb nx:Nat):List (Nat×Nat)->Bool
 | []=>Nat.ble nb nx
 | (a,b)::l=>Nat.blt a nx&&Nat.ble nb b&&l.all (λp=>p.2 != b)&&fq nb nx l
inductive Bxs (h:aB) (fz:Nat->Bool) (σ:Nat->Option Nat):List (Nat×Box)->Prop
 | nil:Bxs h fz σ []
 | cons {id' box' l id box} (hs:σ id'=some id) (hg:h.get id=some box) (hf:fz id=false) (hb:Rb h fz σ box box') (hl:Bxs h fz σ l):Bxs h fz σ ((id',box')::l)
theorem Bxs.get {h:aB}{fz:Nat->Bool}{σ:Nat->Option Nat}{l:List (Nat×Box)}(hb:Bxs h fz σ l):∀ id' box',ac l id'=some box'->∃ id box,σ id'=some id∧h.get id=some box∧fz id=false∧Rb h fz σ box box':=by
 induction hb with
 | nil=>intro id' box' hg;simp[ac] at hg
 | cons hs hg hf hb _ ih=>
  intro i bx hgl;simp only[ac] at hgl;split at hgl
  ·rename_i e;subst e;injection hgl with hgl;subst hgl;exact⟨_,_,hs,hg,hf,hb⟩
  ·exact ih i bx hgl
theorem lK {nb nx:Nat}:∀ {l:List (Nat×Nat)},fq nb nx l=true->∀ j b,lkN l j=some b->j<nx∧nb<=b
 | [],_,j,b,h=>by simp[lkN] at h
 | (a,b0)::l,hp,j,b,h=>by
  simp only[fq,kC] at hp;simp only[lkN] at h;split at h
  ·rename_i e;subst e;injection h with h;subst h
   exact⟨by simpa [Nat.blt_eq] using hp.1.1.1,by simpa using hp.1.1.2⟩
  ·exact lK hp.2 j b h
theorem n7 {nb nx:Nat}:∀ {l:List (Nat×Nat)},fq nb nx l=true->nb<=nx
 | [],h=>by simpa [fq] using h
 | (a,b0)::l,hp=>by simp only[fq,kC] at hp;exact n7 hp.2
theorem nE:∀ {l:List (Nat×Nat)}{j b:Nat},lkN l j=some b->∃ p∈l,p.2=b
 | [],j,b,h=>by simp[lkN] at h
 | (a,b0)::l,j,b,h=>by
  simp only[lkN] at h;split at h
  ·injection h with h;exact⟨(a,b0),by simp,h⟩
  ·obtain⟨p,h1,h2⟩:=nE h;exact⟨p,by simp[h1],h2⟩
theorem qb {nb nx:Nat}:∀ {l:List (Nat×Nat)},fq nb nx l=true->∀ i j b,lkN l i=some b->lkN l j=some b->i=j
 | [],_,i,j,b,h,_=>by simp[lkN] at h
 | (a,b0)::l,hp,i,j,b,hi,hj=>by
  simp only[fq,kC,kL,bne_iff_ne] at hp;simp only[lkN] at hi hj;split at hi<;>split at hj
  ·rename_i e1 e2;rw[<-e1,<-e2]
  ·injection hi with hi;subst hi;obtain⟨p,h1,h2⟩:=nE hj;exact absurd h2 (hp.1.2 p h1)
  ·injection hj with hj;subst hj;obtain⟨p,h1,h2⟩:=nE hi;exact absurd h2 (hp.1.2 p h1)
  ·exact qb hp.2 i j b hi hj
structure Lf (nb:Nat) (s s0:St):Prop where
 le:∀ cb hb c a,Base nb cb hb c s.h->Fit c s a->∃ c0,c0.w=c.w∧Fit c0 s0 a∧Base nb cb hb c0 s0.h
theorem Lf.refl {nb:Nat}(s:St):Lf nb s s:=⟨λ_ _ c _ hB hf=>⟨c,rfl,hf,hB⟩⟩
theorem Lf.of {nb:Nat}{tm:List D}{h:aB}{n nx:Nat}{l:List (Nat×D)}{bs:List (Nat×Box)}(σl:List (Nat×Nat)) (fzl:List Nat)
  (hn:tm.length=n) (hp:fq nb nx σl=true) (he:rr h (fzn fzl) (sgm nb σl) tm l) (hb:Bxs h (fzn fzl) (sgm nb σl) bs):Lf nb ⟨tm,h⟩ ⟨tmp n l,⟨nx,bs⟩⟩:=⟨λcb hb0 c a hB hf=>by
 have R:=hf.rel
 let c0:Ctx:={ S:=λb=>c.S b∨∃ id o box,fzn fzl id=true∧h.get id=some box∧c.φ id=some (b,o),φ:=λj=>if j<nb then c.φ j else(lkN σl j).bind c.φ,w:=c.w }
 have hφ:∀ id' id,sgm nb σl id'=some id->c0.φ id'=c.φ id:=λid' id hs=>by
  show(if id' < nb then c.φ id' else(lkN σl id').bind c.φ)=c.φ id;unfold sgm at hs;split at hs
  ·rename_i hlt;rw[if_pos hlt];injection hs with hs;rw[hs]
  ·rename_i hlt;rw[if_neg hlt,hs];rfl
 have hinj:∀ i j b,sgm nb σl i=some b->sgm nb σl j=some b->i=j:=λi j b hi hj=>by
  unfold sgm at hi hj;split at hi<;>split at hj
  ·injection hi with hi;injection hj with hj;omega
  ·injection hi with hi;have:=(lK hp j b hj).2;omega
  ·injection hj with hj;have:=(lK hp i b hi).2;omega
  ·exact qb hp i j b hi hj
 have T:ri c h (fzn fzl) (sgm nb σl) c0:=⟨R,rfl,λb hb=>.inl hb,λid b o box h1 h2 h3=>.inr ⟨id,o,box,h1,h2,h3⟩,hφ⟩;refine⟨c0,rfl,⟨⟨λb hb=>?_,λid hid=>?_,λid' box' hg=>?_,λi j bi bj b o o' h1 h2 h3 h4=>?_,GT.keep (c:=c) (λ_ h=>.inl h) (λ_ _=>rfl) R.inv⟩,?_⟩,⟨hB.next,hB.fresh,⟨⟨λb hb=>.inl (hB.grow.keeps.S b hb),λid x hx=>?_,λb hb=>hB.grow.keeps.cells b hb,λb e z hz=>hB.grow.keeps.shape b e z hz⟩,hB.grow.os,hB.grow.tape,hB.grow.output,hB.grow.size,?_,hB.grow.frame,λb ho=>?_,λb hb=>?_⟩,λj hj=>?_⟩⟩
 ·rcases hb with hb|⟨id,o,box,_,h2,h3⟩
  ·exact R.size b hb
  ·obtain⟨b',o',p1,_,p3⟩:=R.live id box h2;rw[p1] at h3;injection h3 with h3;injection h3 with e1 _;subst e1
   exact p3.lt
 ·show(if id<nb then c.φ id else(lkN σl id).bind c.φ)=none;have h0:=n7 hp;have hid:nx<=id:=hid;rw[if_neg om];cases hl:lkN σl id with
  | none=>rfl
  | some b=>have:=(lK hp id b hl).1;omega
 ·obtain⟨id,box,h1,h2,h3,h4⟩:=hb.get id' box' hg;obtain⟨b,o,p1,p2,p3⟩:=R.live id box h2;refine⟨b,o,by rw[hφ id' id h1];exact p1,?_,h4.sound T p3⟩;rintro(hs|⟨idf,of,bf,q1,q2,q3⟩)
  ·exact p2 hs
  ·have:=R.inj id idf box bf b o of h2 q2 p1 q3
   subst this;rw[h3] at q1;cases q1
 ·obtain⟨id1,b1,x1,x2,_,_⟩:=hb.get i bi h1;obtain⟨id2,b2,y1,y2,_,_⟩:=hb.get j bj h2;rw[hφ i id1 x1] at h3;rw[hφ j id2 y1] at h4;have:=R.inj id1 id2 b1 b2 b o o' x2 y2 h3 h4
  subst this;exact hinj i j id1 x1 y1
 ·have hlen:=hf.tmps.length
  have:=lG (c0:=c0) (L:=l) (all:=a.tmps.toList) (λj d hm=>by
   obtain⟨x,h1,h2⟩:=he.mem j d hm;obtain⟨y,h3,h4⟩:=hf.tmps.get j x h1
   exact⟨y,h3,h2.sound T y h4⟩) n 0 l (λ_ h=>h) (by rw[hlen];simpa using hn.symm)
  simpa using this
 ·have hid:id<nb:=Nat.lt_of_not_le λhle=>by rw[hB.fresh id hle] at hx;cases hx
  show(if id<nb then c.φ id else(lkN σl id).bind c.φ)=some x;rw[if_pos hid];exact hB.grow.keeps.φ id x hx
 ·show hb0.next<=nx;have h0:=n7 hp;have:=hB.next
  omega
 ·obtain⟨id',box',o,h1,h2⟩:=ho;obtain⟨id,box,x1,x2,_,_⟩:=hb.get id' box' h1;rw[hφ id' id x1] at h2;exact hB.grow.own b ⟨id,box,o,x2,h2⟩
 ·rcases hb with hb|⟨id,o,box,_,h2,h3⟩
  ·exact hB.grow.stable b hb
  ·exact .inr (hB.grow.own b ⟨id,box,o,h2,h3⟩)
 ·show(if j<nb then c.φ j else(lkN σl j).bind c.φ)=cb.φ j
  rw[if_pos hj];exact hB.φ j hj⟩
section
variable {P:Program}{ti:TI}{nb:Nat}
theorem Sv.weak {x:Code}{Q:Exit->St->Prop}{s s0:St}(hle:Lf nb s s0) (h:Sv P nb x Q s0):Sv P nb x Q s:=⟨λcb hb c a R hB hf hR=>by
 obtain⟨c0,e0,f0,b0⟩:=hle.le cb hb c a hB hf;rw[<-e0]
 exact h.run cb hb c0 a R b0 f0 hR⟩
theorem cm.go (hm:P.follows .mixedOrders=true) (T:TOk P ti){x:Code}{Q:Exit->St->Prop}{s:St}(h:gR P ti nb x Q s):cm P nb x Q s:=⟨bK hm T x Q s h⟩
theorem cm.weak (hm:P.follows .mixedOrders=true) (T:TOk P ti){x:Code}{Q:Exit->St->Prop}{s s0:St}(hle:Lf nb s s0) (h:gR P ti nb x Q s0):cm P nb x Q s:=⟨Sv.weak hle (bK hm T x Q s0 h)⟩
structure NxtV {α:Type}(nb:Nat) (st:α->St) (I:α->Prop) (μ:α->Nat) (y:α) (s:St):Prop where
 ex:∃ y',I y'∧μ y' < μ y∧Lf nb s (st y')
theorem aH.by (hm:P.follows .mixedOrders=true) (T:TOk P ti){α:Type}{x:Code}{Q:Exit->St->Prop}{s:St}(st:α->St) (I:α->Prop) (μ:α->Nat) (y:α) (hy:I y) (hle:Lf nb s (st y))
  (round:∀ y,I y->gR P ti nb x (jb (NxtV nb st I μ y) Q) (st y)):aH P nb x Q s:=⟨Sv.weak hle ⟨λcb hb c a R hB hf hR=>by
 have key:∀ m y,μ y<m->I y->∀ c a R,Base nb cb hb c (st y).h->Fit c (st y) a->(∀ e s' c' a',Q e s'->Fit c' s' a'->Base nb cb hb c' s'.h->a'.defers=a.defers->R e a' c'.w)->Code.roundsIn (WF none) 0 P x R m a c.w:=by
  intro m
  induction m with
  | zero=>intro y hlt;omega
  | succ m ih=>
   intro y hlt hI c a R hB hf hR;refine(bK hm T x _ _ (round y hI)).run cb hb c a _ hB hf λe s1 c1 a1 hq f1 b1 d1=>?_
   cases e with
   | normal=>
    obtain⟨y',hI',hlt',hle'⟩:=hq.ex;obtain⟨c2,e2,f2,b2⟩:=hle'.le cb hb c1 a1 b1 f1;show Code.roundsIn (WF none) 0 P x R m a1 c1.w;rw[<-e2];exact ih y' om hI' c2 a1 R b2 f2 λe s3 c3 a3 hq3 f3 b3 d3=>hR e s3 c3 a3 hq3 f3 b3 (d3.trans d1)
   | _=>exact hR _ s1 c1 a1 hq f1 b1 d1
 exact wpIn_loop_rounds (μ y+1) (key _ y (Nat.lt_succ_self _) hy c a R hB hf hR)⟩⟩
theorem aH.gen (hm:P.follows .mixedOrders=true) (T:TOk P ti){α:Type}{x:Code}{Q:Exit->St->Prop}{s:St}(st:α->St) (I:α->Prop) (μ:α->Nat) (NX:α->St->Prop) (hN:∀ y s,NX y s->∃ y',I y'∧μ y' < μ y∧Lf nb s (st y')) (y:α) (hy:I y) (hle:Lf nb s (st y))
  (round:∀ y,I y->gR P ti nb x (jb (NX y) Q) (st y)):aH P nb x Q s:=⟨Sv.weak hle ⟨λcb hb c a R hB hf hR=>by
 have key:∀ m y,μ y<m->I y->∀ c a R,Base nb cb hb c (st y).h->Fit c (st y) a->(∀ e s' c' a',Q e s'->Fit c' s' a'->Base nb cb hb c' s'.h->a'.defers=a.defers->R e a' c'.w)->Code.roundsIn (WF none) 0 P x R m a c.w:=by
  intro m
  induction m with
  | zero=>intro y hlt;omega
  | succ m ih=>
   intro y hlt hI c a R hB hf hR;refine(bK hm T x _ _ (round y hI)).run cb hb c a _ hB hf λe s1 c1 a1 hq f1 b1 d1=>?_
   cases e with
   | normal=>
    obtain⟨y',hI',hlt',hle'⟩:=hN y s1 hq;obtain⟨c2,e2,f2,b2⟩:=hle'.le cb hb c1 a1 b1 f1;show Code.roundsIn (WF none) 0 P x R m a1 c1.w;rw[<-e2];exact ih y' om hI' c2 a1 R b2 f2 λe s3 c3 a3 hq3 f3 b3 d3=>hR e s3 c3 a3 hq3 f3 b3 (d3.trans d1)
   | _=>exact hR _ s1 c1 a1 hq f1 b1 d1
 exact wpIn_loop_rounds (μ y+1) (key _ y (Nat.lt_succ_self _) hy c a R hB hf hR)⟩⟩
structure Hg {α β:Type}(nb:Nat) (st:α->β->St) (I:α->β->Prop) (μ:α->β->Nat) (y:α) (z:β) (s:St):Prop where
 ex:∃ y' z',I y' z'∧μ y' z' < μ y z∧Lf nb s (st y' z')
theorem aH.by2 (hm:P.follows .mixedOrders=true) (T:TOk P ti){α β:Type}{x:Code}{Q:Exit->St->Prop}{s:St}(st:α->β->St) (I:α->β->Prop) (μ:α->β->Nat) (y:α) (z:β) (hy:I y z) (hle:Lf nb s (st y z))
  (round:∀ y z,I y z->gR P ti nb x (jb (Hg nb st I μ y z) Q) (st y z)):aH P nb x Q s:=
 aH.gen hm T (α:=α×β) (λp=>st p.1 p.2) (λp=>I p.1 p.2) (λp=>μ p.1 p.2) (λp=>Hg nb st I μ p.1 p.2) (λ_ _ h=>let⟨y',z',h1,h2,h3⟩:=h.ex;⟨(y',z'),h1,h2,h3⟩) (y,z) hy hle λp=>round p.1 p.2
structure Hf {α β γ:Type}(nb:Nat) (st:α->β->γ->St) (I:α->β->γ->Prop) (μ:α->β->γ->Nat) (y:α) (z:β) (u:γ) (s:St):Prop where
 ex:∃ y' z' u',I y' z' u'∧μ y' z' u' < μ y z u∧Lf nb s (st y' z' u')
theorem aH.by3 (hm:P.follows .mixedOrders=true) (T:TOk P ti){α β γ:Type}{x:Code}{Q:Exit->St->Prop}{s:St}(st:α->β->γ->St) (I:α->β->γ->Prop) (μ:α->β->γ->Nat) (y:α) (z:β) (u:γ) (hy:I y z u) (hle:Lf nb s (st y z u))
  (round:∀ y z u,I y z u->gR P ti nb x (jb (Hf nb st I μ y z u) Q) (st y z u)):aH P nb x Q s:=
 aH.gen hm T (α:=α×β×γ) (λp=>st p.1 p.2.1 p.2.2) (λp=>I p.1 p.2.1 p.2.2) (λp=>μ p.1 p.2.1 p.2.2) (λp=>Hf nb st I μ p.1 p.2.1 p.2.2) (λ_ _ h=>let⟨y',z',u',h1,h2,h3⟩:=h.ex;⟨(y',z',u'),h1,h2,h3⟩) (y,z,u) hy hle λp=>round p.1 p.2.1 p.2.2
def rndV (P:Program) (ti:TI) (nb:Nat) (c:Code) (Q:Exit->St->Prop) (m:Nat):St->Prop:=
 Nat.rec (motive:=λ_=>St->Prop) (λ_=>False) (λ_ ih s=>gR P ti nb c (jb ih Q) s) m
theorem aH.times (hm:P.follows .mixedOrders=true) (T:TOk P ti) (m:Nat){x:Code}{Q:Exit->St->Prop}{s:St}(h:rndV P ti nb x Q m s):aH P nb x Q s:=⟨⟨λcb hb c a R hB hf hR=>by
 have key:∀ m s,rndV P ti nb x Q m s->∀ c a,Base nb cb hb c s.h->Fit c s a->∀ R,(∀ e s' c' a',Q e s'->Fit c' s' a'->Base nb cb hb c' s'.h->a'.defers=a.defers->R e a' c'.w)->Code.roundsIn (WF none) 0 P x R m a c.w:=by
  intro m
  induction m with
  | zero=>intro s h;exact h.elim
  | succ m ih=>
   intro s h c a hB hf R hR;refine(bK hm T x _ _ (show gR P ti nb x (jb (rndV P ti nb x Q m) Q) s from h)).run cb hb c a _ hB hf λe s1 c1 a1 hq f1 b1 d1=>?_
   cases e with
   | normal=>exact ih s1 hq c1 a1 b1 f1 R λe s3 c3 a3 hq3 f3 b3 d3=>hR e s3 c3 a3 hq3 f3 b3 (d3.trans d1)
   | _=>exact hR _ s1 c1 a1 hq f1 b1 d1
 exact wpIn_loop_rounds m (key m s h c a hB hf R hR)⟩⟩
structure aE (h:aB) (d0 d:D):Prop where
 rd:Rd h (λ_=>true) (λ_=>none) d0 d
def endQ (ti:TI) (fn:Func) (d:D):Exit->St->Prop
 | .normal,s=>match gu ti fn s with|some d0=>aE s.h d0 d|none=>False
 | .ret,s=>match gu ti fn s with|some d0=>aE s.h d0 d|none=>False
 | _,_=>False
theorem uA {c:Ctx} {h0:aB} (R:Rel c h0) {c1:Ctx} {h1:aB} (r1:Rel c1 h1) (g1:aZ { c with φ:=λ_=>none } ⟨0,[]⟩ c1 h1) {d d':D} {v:Value} (hf:aE h1 d d') (v1:V c1 d v) :
  ∃ c',c'.w=c1.w∧V c' d' v∧Rel c' h0∧aZ c h0 c' h0∧∀ j,j<h0.next->c'.φ j=c.φ j:=by
 have v2:V { c1.frozen h1 with φ:=c.φ } d' v:=hf.rd.sound (c:=c1) (c0:={ c1.frozen h1 with φ:=c.φ }) ⟨r1,rfl,λb hb=>.inl hb,λid b o box _ h2 h3=>.inr ⟨id,box,o,h2,h3⟩,λ_ _ h=>by cases h⟩ v v1;have hno:∀ b,¬bG { c with φ:=λ_=>none } ⟨0,[]⟩ b:=λb ⟨id,box,o,hg,_⟩=>by simp[aB.get,ac] at hg
 have hst:∀ b,(c1.S b∨bG c1 h1 b)->c.S b∨c.w.heap.size<=b:=λb hb=>by
  rcases hb with hb|hb
  ·rcases g1.stable b hb with h|h|h
   ·exact .inl h
   ·exact .inr h
   ·exact absurd h (hno b)
  ·rcases g1.own b hb with h|h
   ·exact .inr h
   ·exact absurd h (hno b)
 have hfr:∀ b,b<c.w.heap.size->c1.w.heap[b]?=c.w.heap[b]?:=λb hb=>g1.frame b hb (hno b)
 have K:am c { c1.frozen h1 with φ:=c.φ }:=⟨λb hb=>.inl (g1.keeps.S b hb),λ_ _ h=>h,λb hb=>g1.keeps.cells b hb,λb e z hz=>g1.keeps.shape b e z hz⟩;refine⟨{ c1.frozen h1 with φ:=c.φ },rfl,v2,⟨λb hb=>?_,R.fresh,λid box hg=>?_,R.inj,GT.kept K R.inv⟩,⟨K,g1.os,g1.tape,g1.output,g1.size,kP _,λb hb _=>hfr b hb,λb ho=>.inr ho,λb hb=>(hst b hb).imp id .inl⟩,λ_ _=>rfl⟩
 ·rcases hb with hb|⟨id,box,o,hg,hφ⟩
  ·exact r1.size b hb
  ·obtain⟨b',o',p1,_,p3⟩:=r1.live id box hg;rw[p1] at hφ;injection hφ with hφ;injection hφ with e1 _;subst e1
   exact p3.lt
 ·obtain⟨b,o,p1,p2,p3⟩:=R.live id box hg;refine⟨b,o,p1,λhs=>?_,p3.keep K (hfr b p3.lt)⟩;rcases hst b hs with h|h
  ·exact p2 h
  ·have:=p3.lt;omega
theorem Pu.of_v (hm:P.follows .mixedOrders=true) (T:TOk P ti){g:FuncId}{fn:Func}{code:Code}{ds:List D}{d:D}(hg:P.funcs[g]?=some fn) (hb:fn.body=some code) (hn:(fn.name == "runtime.NumGoroutine")=false) (hd:aK ds=true)
  (h:gR P ti 0 code (endQ ti fn d) ⟨ds++List.replicate (fn.ntmps-ds.length) aM,⟨0,[]⟩⟩):Pu P g ds d:=by
 intro h0;refine⟨by unfold dK;rw[hg];simp[hb,hn],λc vs R hvs=>?_⟩;refine(callsIn_wide (n:=0)).1 (callsIn_of_wp hg hb trivial ?_);have R0:Rel { c with φ:=λ_=>none } ⟨0,[]⟩:=⟨R.size,λ_ _=>rfl,λid box hg=>by simp[aB.get,ac] at hg,λid id' box box' b o o' hg=>by simp[aB.get,ac] at hg,GT.keep (c:=c) (λ_ h=>h) (λ_ _=>rfl) R.inv⟩;have hvs0:VS { c with φ:=λ_=>none } ds vs:=VS.move (c:=c) (c':={ c with φ:=λ_=>none }) (λb hb=>⟨hb,rfl⟩) ds vs hd hvs
 have hfit:Fit { c with φ:=λ_=>none } ⟨ds++List.replicate (fn.ntmps-ds.length) aM,⟨0,[]⟩⟩ { tmps:=vs.toArray++Array.replicate (fn.ntmps-vs.toArray.size) undef,defers:=[] }:=by
  refine⟨R0,?_⟩;simp only[Array.toList_append,Array.toList_replicate,List.size_toArray];rw[hvs.length];exact hvs0.append (VS.replicate V.undef _)
 refine(bK hm T code _ _ h).run { c with φ:=λ_=>none } ⟨0,[]⟩ { c with φ:=λ_=>none } _ _ ⟨rfl,λ_ _=>rfl,aZ.refl _ _,λ_ _=>rfl⟩ hfit λe s' c1 a' hq f1 b1 d1=>?_
 have key:(match gu ti fn s' with|some d0=>aE s'.h d0 d|none=>False)->∃ v c',(results fn a'.tmps).run P c1.w=.ok v c1.w∧c'.w=c1.w∧V c' d v∧Rel c' h0∧aZ c h0 c' h0∧∀ j,j<h0.next->c'.φ j=c.φ j:=λhq=>by
  split at hq
  ·rename_i d0 hr;obtain⟨v,e1,v1⟩:=dN (P:=P) T f1 hr;obtain⟨c',k1,k2,k3,k4,k5⟩:=uA R f1.rel b1.grow hq v1;exact⟨v,c',e1,k1,k2,k3,k4,k5⟩
  ·exact hq.elim
 cases e with
 | normal=>
  obtain⟨v,c',e1,k1,k2,k3,k4,k5⟩:=key hq;exact⟨d1,v,e1,v,c',rfl,k1,k2,k3,k4,k5⟩
 | ret=>
  obtain⟨v,c',e1,k1,k2,k3,k4,k5⟩:=key hq;exact⟨d1,v,e1,v,c',rfl,k1,k2,k3,k4,k5⟩
 | _=>exact hq.elim
end
end Go.Am
/-
 The abstract machine,part 34: a region that draws its order over data that is not known,evaluated to a proposition.
-/
namespace Go.Am
variable [GT]
section
variable (P:Program) (ti:TI)
def rcV (m:Nat) (tm:List D) (o:Oper) (d:D) (l:List (Nat×aB)) (K:Prop):Prop:=
 List.rec (motive:=λ_=>Prop) K (λp _ ih=>Prod.casesOn (motive:=λ_=>Prop) p λt g=>Chk (∃ h',aop P ti tm g 0 o=some (d,h')) (if(t == 0 || m.testBit (t-1))=true then K else ih)) l
def pmV (h:aB) (m:Nat) (l:List (Nat×Oper×List D×D)) (K:Prop):Prop:=
 List.rec (motive:=λ_=>Prop) K (λp _ ih=>Prod.casesOn (motive:=λ_=>Prop) p λr q=>if m.testBit r=true then ih else Chk (∃ h',aop P ti q.2.1 h 0 q.1=some (q.2.2,h')) ih) l
def BA (m:Nat) (l:List (Nat×Box)):(List (Nat×Box)->List (Nat×Box)->Prop)->Prop:=
 List.rec (motive:=λ_=>(List (Nat×Box)->List (Nat×Box)->Prop)->Prop) (λK=>K [] [])
  (λp _ ih K=>Prod.casesOn (motive:=λ_=>Prop) p λr b=>if m.testBit r=true then ih (λx y=>K ((r,b)::x) y) else ih (λx y=>K x ((r,b)::y))) l
def Cn (base:Nat) (l:List (Nat×Box)) (g:aB) (K:aB->Prop):Prop:=
 match g with
 | ⟨n,bs⟩=>List.rec (motive:=λ_=>(List (Nat×Box)->Prop)->Prop) (λK=>K bs) (λp _ ih K=>Prod.casesOn (motive:=λ_=>Prop) p λr b=>ih (λx=>K ((base+r,b)::x))) l (λbs=>K ⟨n,bs⟩)
abbrev RdL:=List (Nat×Oper×List D×D)
def yM (ops:Array Oper) (base:Nat) (M:List Nat) (o:Oper) (ih:List D->List (Nat×aB)->List (Nat×Box)->List Nat->RdL->fA->Prop) (j:Nat) (tm:List D) (hist:List (Nat×aB)) (pend:List (Nat×Box)) (al:List Nat) (rd:RdL) (mm:fA):Prop:=
 match af ops tm o with
 | some true=>
  match bL ops o with
  | .pure=>opV P ti tm ⟨0,[]⟩ 0 o λd _=>bh tm o.dst d λtm'=>ih tm' hist pend al rd mm
  | .read=>
   match hist with
   | (t,g)::r=>opV P ti tm g 0 o λd _=>
    if(t == 0 || (M.getD j 0).testBit (t-1))=true then bh tm o.dst d λtm'=>ih tm' ((t,g)::r) pend al ((j,o,tm,d)::rd) mm
    else rcV P ti (M.getD j 0) tm o d r (bh tm o.dst d λtm'=>ih tm' ((t,g)::r) pend al ((j,o,tm,d)::rd) mm)
   | []=>False
  | .alloc=>
   if u3 M (M.getD j 0) hist al=true then opV P ti tm ⟨0,[]⟩ (base+j) o λd h'=>r4 (h'.get (base+j)) λbox=>bh tm o.dst d λtm'=>ih tm' hist ((j,box)::pend) (j::al) rd mm else False
  | .write=>
   match hist with
   | (t,g)::r=>
    if(t == 0 || (M.getD j 0).testBit (t-1))=true then
     BA (M.getD j 0) pend λpn pv=>Cn base pn g λhv=>
     lm P tm o
      (λgf ds=>CY P gf ds λd=>frV gf ds d mm (pmV P ti hv (M.getD j 0) rd (bh tm o.dst d λtm'=>ih tm' ((j+1,hv)::(t,g)::r) pv al rd ((gf,ds,d)::mm))))
      (λ_ _=>False)
      (opV P ti tm hv (base+j) o λd h'=>o6 h' λh'=>pmV P ti h' (M.getD j 0) rd (bh tm o.dst d λtm'=>ih tm' ((j+1,h')::(t,g)::r) pv al rd mm))
    else False
   | []=>False
 | some false=>bh tm o.dst aM λtm'=>ih tm' hist pend al rd mm
 | none=>False
def AU (ops:Array Oper) (base:Nat) (M:List Nat) (l:List Oper):Nat->List D->List (Nat×aB)->List (Nat×Box)->List Nat->RdL->fA->(List D->List (Nat×aB)->List (Nat×Box)->Prop)->Prop:=
 List.rec (motive:=λ_=>Nat->List D->List (Nat×aB)->List (Nat×Box)->List Nat->RdL->fA->(List D->List (Nat×aB)->List (Nat×Box)->Prop)->Prop)
  (λ_ tm hist pend _ _ _ K=>K tm hist pend)
  (λo _ ih j tm hist pend al rd mm K=>yM P ti ops base M o (λtm hist pend al rd mm=>ih (j+1) tm hist pend al rd mm K) j tm hist pend al rd mm) l
end
section
variable {P:Program}{ti:TI}
theorem mg {m:Nat}:∀ {l:List (Nat×Box)}{K:List (Nat×Box)->List (Nat×Box)->Prop},BA m l K->K (l.filter λp=>m.testBit p.1) (l.filter λp=>!m.testBit p.1)
 | [],_,h=>h
 | (r,b)::l,K,h=>by
  replace h:(if m.testBit r=true then BA m l (λx y=>K ((r,b)::x) y) else BA m l (λx y=>K x ((r,b)::y))):=h
  split at h
  ·rename_i hb;have:=mg h;simpa [hb] using this
  ·rename_i hb;have:=mg h;simpa [hb] using this
theorem lD {base:Nat}{g:aB}{K:aB->Prop}{l:List (Nat×Box)}(h:Cn base l g K):K (dL base l g):=by
 obtain⟨n,bs⟩:=g
 have key:∀ (l:List (Nat×Box)) (K:List (Nat×Box)->Prop),List.rec (motive:=λ_=>(List (Nat×Box)->Prop)->Prop) (λK=>K bs) (λp _ ih K=>Prod.casesOn (motive:=λ_=>Prop) p λr b=>ih (λx=>K ((base+r,b)::x))) l K->K (l.map (λp=>(base+p.1,p.2))++bs):=by
  intro l
  induction l with
  | nil=>intro K h;exact h
  | cons p l ih=>intro K h;exact ih (λx=>K ((base+p.1,p.2)::x)) h
 exact key l (λbs=>K ⟨n,bs⟩) h
theorem t7 {m:Nat}{tm:List D}{o:Oper}{d:D}{K:Prop}:∀ {l:List (Nat×aB)},rcV P ti m tm o d l K->K∧bv P ti eqC m tm o d l=true
 | [],h=>⟨h,rfl⟩
 | (t,g)::r,h=>by
  obtain⟨⟨h',h1⟩,h2⟩:=h;simp only[bv,kC];split at h2
  ·rename_i hb;exact⟨h2,eX h1,by simp only[kN] at hb ⊢;exact .inl hb⟩
  ·obtain⟨k,h3⟩:=t7 h2;exact⟨k,eX h1,by simp only[kN];exact .inr h3⟩
theorem jK {h:aB}{m:Nat}{K:Prop}:∀ {l:List (Nat×Oper×List D×D)},pmV P ti h m l K->K∧gT P ti eqC h m l=true
 | [],hk=>⟨hk,rfl⟩
 | (r,o,tm,d)::l,hp=>by
  replace hp:(if m.testBit r=true then pmV P ti h m l K else Chk (∃ h',aop P ti tm h 0 o=some (d,h')) (pmV P ti h m l K)):=hp
  simp only[gT,kC,kN];split at hp
  ·rename_i hb;obtain⟨k,h2⟩:=jK hp;exact⟨k,.inl hb,h2⟩
  ·obtain⟨⟨h',h1⟩,hp⟩:=hp;obtain⟨k,h2⟩:=jK hp;exact⟨k,.inr (eX h1),h2⟩
theorem dS (ops:Array Oper) (base:Nat) (M:List Nat):∀ (l:List Oper) (j:Nat) (tm:List D) (hist:List (Nat×aB)) (pend:List (Nat×Box)) (al:List Nat) (rd:List (Nat×Oper×List D×D)) (mm:fA) (K:List D->List (Nat×aB)->List (Nat×Box)->Prop),
  AU P ti ops base M l j tm hist pend al rd mm K->rp mm ->
  ∃ mm2 s',K s'.tm s'.hist s'.pend∧rp (mm2++mm)∧(∀ e∈mm2,Pu P e.1 e.2.1 e.2.2)∧∀ m,(∀ e∈mm2,lkM m e.1 e.2.1=some e.2.2)->dA P ti (clM m) eqC ops base M l j ⟨tm,hist,pend,al,rd⟩=some s'
 | [],j,tm,hist,pend,al,rd,mm,K,h,hF=>⟨[],⟨tm,hist,pend,al,rd⟩,h,hF,λe he=>by simp at he,λm _=>rfl⟩
 | o::l,j,tm,hist,pend,al,rd,mm,K,h,hF=>by
  replace h:yM P ti ops base M o (λtm hist pend al rd mm=>AU P ti ops base M l (j+1) tm hist pend al rd mm K) j tm hist pend al rd mm:=h
  unfold yM at h;split at h
  ·rename_i hw;split at h
   ·rename_i hk;obtain⟨hc1,d,h',hc2,h1⟩:=bn h;obtain⟨mm2,s',k1,k2,k3,k4⟩:=dS ops base M l (j+1) _ _ _ _ _ mm K (ak h1) hF;refine⟨mm2,s',k1,k2,k3,λm hm=>?_⟩;simp only[dA,cO,hw,hk,hc2];exact k4 m hm
   ·rename_i hk;split at h
    ·rename_i t g r;obtain⟨hc1,d,h',hc2,h1⟩:=bn h
     have hh:bh tm o.dst d (λtm'=>AU P ti ops base M l (j+1) tm' ((t,g)::r) pend al ((j,o,tm,d)::rd) mm K)∧bv P ti eqC (M.getD j 0) tm o d ((t,g)::r)=true:=by
      split at h1
      ·rename_i hb;exact⟨h1,by simp only[bv,kC];exact⟨eX hc2,by simp only[kN] at hb ⊢;exact .inl hb⟩⟩
      ·obtain⟨k,h3⟩:=t7 h1;exact⟨k,by simp only[bv,kC];exact⟨eX hc2,by simp only[kN];exact .inr h3⟩⟩
     obtain⟨h1,hro⟩:=hh;obtain⟨mm2,s',k1,k2,k3,k4⟩:=dS ops base M l (j+1) _ _ _ _ _ mm K (ak h1) hF;refine⟨mm2,s',k1,k2,k3,λm hm=>?_⟩;simp only[dA,cO,hw,hk,hc2,hro,if_true];exact k4 m hm
    ·exact h.elim
   ·rename_i hk;split at h
    ·rename_i hal;obtain⟨hc1,d,h',hc2,h1⟩:=bn h;obtain⟨box,hbox,h1⟩:=eO h1;obtain⟨mm2,s',k1,k2,k3,k4⟩:=dS ops base M l (j+1) _ _ _ _ _ mm K (ak h1) hF;refine⟨mm2,s',k1,k2,k3,λm hm=>?_⟩;simp only[dA,cO,hw,hk,hc2,hbox,hal,if_true];exact k4 m hm
    ·exact h.elim
   ·rename_i hk;split at h
    ·rename_i t g r;split at h
     ·rename_i hb
      replace h:=lD (mg h)
      rcases fk h with⟨gf,ds,hac,h⟩|⟨_,_,_,h⟩|h
      ·obtain⟨d,hpu,h⟩:=h.ex;obtain⟨h,hfr⟩:=kj h;obtain⟨h1,hpm⟩:=jK h
       have hF':rp ((gf,ds,d)::mm):=λg1 ds1 d1 d2 m1 m2=>by
        rcases List.mem_cons.1 m1 with x1|x1<;>rcases List.mem_cons.1 m2 with x2|x2
        ·simp only[kB] at x1 x2;rw[x1.2.2,x2.2.2]
        ·simp only[kB] at x1;obtain⟨rfl,rfl,rfl⟩:=x1;exact(hfr d2 x2).symm
        ·simp only[kB] at x2;obtain⟨rfl,rfl,rfl⟩:=x2;exact hfr d1 x1
        ·exact hF _ _ _ _ x1 x2
       obtain⟨mm2,s',k1,k2,k3,k4⟩:=dS ops base M l (j+1) _ _ _ _ _ _ K (ak h1) hF';refine⟨mm2++[(gf,ds,d)],s',k1,by simpa using k2,λe he=>?_,λm hm=>?_⟩
       ·rcases List.mem_append.1 he with he|he
        ·exact k3 e he
        ·simp at he;subst he;exact hpu
       ·have hl:=hm (gf,ds,d) si
        have hst:∀ h0 id,bU P ti (clM m) tm h0 id o=some (d,h0):=λh0 id=>by
         unfold bU;simp only[hac,clM,hl,kF]
        simp only[dA,cO,hw,hk,hb,if_true,hst,hpm];exact k4 m (λe he=>hm e (by simp[he]))
      ·exact h.elim
      ·obtain⟨hc1,d,h',hc2,h1⟩:=bn h;obtain⟨h1,hpm⟩:=jK (iw h1);obtain⟨mm2,s',k1,k2,k3,k4⟩:=dS ops base M l (j+1) _ _ _ _ _ mm K (ak h1) hF;refine⟨mm2,s',k1,k2,k3,λm hm=>?_⟩
       have hst:bU P ti (clM m) tm (dL base (pend.filter λp=>(M.getD j 0).testBit p.1) g) (base+j) o=some (d,h'):=by
        unfold bU;simp only[hc1,hc2]
       simp only[dA,cO,hw,hk,hb,if_true,hst,hpm];exact k4 m hm
     ·exact h.elim
    ·exact h.elim
  ·rename_i hw;obtain⟨mm2,s',k1,k2,k3,k4⟩:=dS ops base M l (j+1) _ _ _ _ _ mm K (ak h) hF;refine⟨mm2,s',k1,k2,k3,λm hm=>?_⟩;simp only[dA,cO,hw];exact k4 m hm
  ·exact h.elim
def lQ (base:Nat) (Q:St->Prop) (tm:List D) (hist:List (Nat×aB)) (pend:List (Nat×Box)):Prop:=
 match hist with
 | (_,g)::_=>Cn base pend g λhv=>Q ⟨tm,hv⟩
 | []=>False
theorem aX.by (hm:P.follows .mixedOrders=true) (T:TOk P ti){nb id:Nat}{ops:Array Oper}{Q:Exit->St->Prop}{tm:List D}{n:Nat}{bs:List (Nat×Box)}(M:List Nat) (hok:(b6 ops&&decide (eE ops.toList []=M))=true)
  (h:AU P ti ops n M ops.toList 0 tm [(0,⟨n+ops.size,bs⟩)] [] [] [] [] (lQ n (Q .normal))):aX P nb id ops Q ⟨tm,⟨n,bs⟩⟩:=⟨.of_sw (by
 simp only[kC,decide_eq_true_eq] at hok;obtain⟨hok,hM⟩:=hok;subst hM;obtain⟨mm2,ds,k1,k2,k3,k4⟩:=dS ops _ _ _ _ _ _ _ _ _ _ _ h (λ_ _ _ _ h=>by simp at h);rw[List.append_nil] at k2
 have hC:gm P (clM mm2):=λk as h0 d h' hx=>by
  cases k with
  | yf id=>simp[clM] at hx
  | fn g=>
   simp only[clM,kJ,kB] at hx;obtain⟨d',h1,rfl,rfl⟩:=hx;exact k3 _ (nF h1) _
 have hr:=k4 mm2 (λe he=>pW k2 (by exact he));unfold lQ at k1;split at k1
 ·rename_i t g r hh
  have hd:bp P ti (clM mm2) eqC ops ⟨tm,⟨n,bs⟩⟩=some ⟨ds.tm,dL n ds.pend g⟩:=by
   unfold bp;simp only[bump];rw[hr];simp only[hh]
  intro c a R hf hR;exact fO hm T hC mI hok hd hf λc' a' f1 g1 p1 d1=>hR _ _ c' a' (lD k1) f1 g1 p1 d1
 ·exact k1.elim)⟩
end
def Pk (P:Program) (g:FuncId) (ds:List D) (k:Nat) (d:Nat->D) (bs:Nat->List (Nat×Box)):Prop:=∀ h,AC1 P g ds h (d h.next) ⟨h.next+k,bs h.next++h.bs⟩
def sgn (n:Nat):List Nat->Nat->Option Nat
 | [],_=>none
 | a::l,j=>if j=n then some a else sgn (n+1) l j
structure E5 (h:aB) (d0:D) (olds:List Nat) (d:Nat->D) (bs:Nat->List (Nat×Box)):Prop where
 nd:olds.Nodup
 rd:∀ n,Rd h (λi=>!olds.contains i) (sgn n olds) d0 (d n)
 bx:∀ n,Bxs h (λi=>!olds.contains i) (sgn n olds) (bs n)
theorem j6:∀ {l:List Nat}{n j a:Nat},sgn n l j=some a->n<=j∧j<n+l.length∧l[j-n]?=some a
 | [],_,_,_,h=>by simp[sgn] at h
 | x::l,n,j,a,h=>by
  simp only[sgn] at h;split at h
  ·rename_i e;subst e;injection h with h;subst h;simp
  ·rename_i e;obtain⟨h1,h2,h3⟩:=j6 h;refine⟨by omega,by simp only[kO];omega,?_⟩;rw[show j-n=(j-(n+1))+1 from by omega];simpa using h3
theorem FZ {l:List Nat}(hn:l.Nodup){n i j a:Nat}(hi:sgn n l i=some a) (hj:sgn n l j=some a):i=j:=by
 obtain⟨h1,h2,h3⟩:=j6 hi;obtain⟨k1,k2,k3⟩:=j6 hj;have:=(List.getElem?_inj om hn).1 (h3.trans k3.symm)
 omega
theorem dQ:∀ (a b:List (Nat×Box)) (id:Nat),ac (a++b) id=(ac a id).or (ac b id)
 | [],b,id=>by simp[ac]
 | (i,x)::a,b,id=>by
  simp only[List.cons_append,ac];split
  ·simp
  ·exact dQ a b id
def endN (ti:TI) (fn:Func) (k:Nat) (d:Nat->D) (bs:Nat->List (Nat×Box)):Exit->St->Prop
 | .normal,s=>match gu ti fn s with|some d0=>∃ olds,olds.length=k∧E5 s.h d0 olds d bs|none=>False
 | .ret,s=>match gu ti fn s with|some d0=>∃ olds,olds.length=k∧E5 s.h d0 olds d bs|none=>False
 | _,_=>False
theorem DT {c:Ctx} {h0:aB} (R:Rel c h0) {c1:Ctx} {h1:aB} (r1:Rel c1 h1) (g1:aZ { c with φ:=λ_=>none } ⟨0,[]⟩ c1 h1) {d0:D} {olds:List Nat} {d:Nat->D} {bs:Nat->List (Nat×Box)} {v:Value} (hr:E5 h1 d0 olds d bs) (v1:V c1 d0 v) :
  ∃ c',c'.w=c1.w∧V c' (d h0.next) v∧Rel c' ⟨h0.next+olds.length,bs h0.next++h0.bs⟩∧aZ c h0 c' ⟨h0.next+olds.length,bs h0.next++h0.bs⟩∧∀ j,j<h0.next->c'.φ j=c.φ j:=by
 let c':Ctx:={ S:=λb=>c1.S b∨∃ id o box,(!olds.contains id)=true∧h1.get id=some box∧c1.φ id=some (b,o),φ:=λj=>if j<h0.next then c.φ j else(sgn h0.next olds j).bind c1.φ,w:=c1.w }
 have hφ:∀ id' id,sgn h0.next olds id'=some id->c'.φ id'=c1.φ id:=λid' id hs=>by
  have:=(j6 hs).1
  show(if id' < h0.next then c.φ id' else(sgn h0.next olds id').bind c1.φ)=c1.φ id;rw[if_neg om,hs];rfl
 have hφ0:∀ j,j<h0.next->c'.φ j=c.φ j:=λj hj=>by
  show(if j<h0.next then c.φ j else(sgn h0.next olds j).bind c1.φ)=c.φ j;rw[if_pos hj]
 have T:ri c1 h1 (λi=>!olds.contains i) (sgn h0.next olds) c':=⟨r1,rfl,λb hb=>.inl hb,λid b o box h1 h2 h3=>.inr ⟨id,o,box,h1,h2,h3⟩,hφ⟩;have hno:∀ b,¬bG { c with φ:=λ_=>none } ⟨0,[]⟩ b:=λb ⟨id,box,o,hg,_⟩=>by simp[aB.get,ac] at hg
 have hnew:∀ b,bG c1 h1 b->c.w.heap.size<=b:=λb hb=>(g1.own b hb).elim id λh=>absurd h (hno b)
 have hst:∀ b,c'.S b->c.S b∨c.w.heap.size<=b:=λb hb=>by
  rcases hb with hb|⟨id,o,box,_,h2,h3⟩
  ·rcases g1.stable b hb with h|h|h
   ·exact .inl h
   ·exact .inr h
   ·exact absurd h (hno b)
  ·exact .inr (hnew b ⟨id,box,o,h2,h3⟩)
 have hfr:∀ b,b<c.w.heap.size->c1.w.heap[b]?=c.w.heap[b]?:=λb hb=>g1.frame b hb (hno b)
 have hlt:∀ id x,c.φ id=some x->id<h0.next:=λid x hx=>Nat.lt_of_not_le λhle=>by rw[R.fresh id hle] at hx;cases hx
 have K:am c c':=⟨λb hb=>.inl (g1.keeps.S b hb),λid x hx=>by rw[hφ0 id (hlt id x hx)];exact hx,λb hb=>g1.keeps.cells b hb,λb e z hz=>g1.keeps.shape b e z hz⟩
 have hget:∀ id box,ac (bs h0.next++h0.bs) id=some box->(∃ i bx,sgn h0.next olds id=some i∧h1.get i=some bx∧(!olds.contains i)=false∧Rb h1 (λi=>!olds.contains i) (sgn h0.next olds) bx box)∨h0.get id=some box:=λid box hg=>by
  rw[dQ] at hg;cases hl:ac (bs h0.next) id with
  | none=>rw[hl] at hg;exact .inr (by simp only[Option.none_or] at hg;exact hg)
  | some b=>
   rw[hl] at hg;simp only[Option.some_or,kA] at hg;subst hg;obtain⟨i,bx,q1,q2,q3,q4⟩:=(hr.bx h0.next).get id b hl;exact .inl ⟨i,bx,q1,q2,q3,q4⟩
 refine⟨c',rfl,(hr.rd h0.next).sound T v v1,⟨λb hb=>?_,λid hid=>?_,λid box hg=>?_,λi j bi bj b o o' x1 x2 x3 x4=>?_,GT.kept K R.inv⟩,⟨K,g1.os,g1.tape,g1.output,g1.size,Nat.le_add_right _ _,λb hb _=>hfr b hb,λb ho=>?_,λb hb=>(hst b hb).imp id .inl⟩,hφ0⟩
 ·rcases hb with hb|⟨id,o,box,_,h2,h3⟩
  ·exact r1.size b hb
  ·obtain⟨b',o',p1,_,p3⟩:=r1.live id box h2;rw[p1] at h3;injection h3 with h3;injection h3 with e1 _;subst e1
   exact p3.lt
 ·have hid:h0.next+olds.length<=id:=hid;show(if id<h0.next then c.φ id else(sgn h0.next olds id).bind c1.φ)=none;rw[if_neg om];cases hs:sgn h0.next olds id with
  | none=>rfl
  | some a=>have:=(j6 hs).2.1;omega
 ·rcases hget id box hg with⟨i,bx,q1,q2,q3,q4⟩|hg
  ·obtain⟨b,o,p1,p2,p3⟩:=r1.live i bx q2;refine⟨b,o,by rw[hφ id i q1];exact p1,?_,q4.sound T p3⟩;rintro(hs|⟨idf,of,bf,y1,y2,y3⟩)
   ·exact p2 hs
   ·have:=r1.inj i idf bx bf b o of q2 y2 p1 y3
    subst this;rw[q3] at y1;cases y1
  ·obtain⟨b,o,p1,p2,p3⟩:=R.live id box hg;refine⟨b,o,by rw[hφ0 id (hlt id _ p1)];exact p1,λhs=>?_,p3.keep K (hfr b p3.lt)⟩;rcases hst b hs with h|h
   ·exact p2 h
   ·have:=p3.lt;omega
 ·rcases hget i bi x1 with⟨i1,b1,q1,q2,_,_⟩|g1'<;>rcases hget j bj x2 with⟨i2,b2,y1,y2,_,_⟩|g2'
  ·rw[hφ i i1 q1] at x3;rw[hφ j i2 y1] at x4;have:=r1.inj i1 i2 b1 b2 b o o' q2 y2 x3 x4
   subst this;exact FZ hr.nd q1 y1
  ·rw[hφ i i1 q1] at x3;obtain⟨b',o2,p1,_,p3⟩:=R.live j bj g2';rw[hφ0 j (hlt j _ p1),p1] at x4;injection x4 with x4;injection x4 with e1 _;subst e1
   have h1:=hnew _ ⟨i1,b1,o,q2,x3⟩;have h2:=p3.lt;omega
  ·rw[hφ j i2 y1] at x4;obtain⟨b',o2,p1,_,p3⟩:=R.live i bi g1';rw[hφ0 i (hlt i _ p1),p1] at x3;injection x3 with x3;injection x3 with e1 _;subst e1
   have h1:=hnew _ ⟨i2,b2,o',y2,x4⟩;have h2:=p3.lt;omega
  ·obtain⟨bx,ox,p1,_,_⟩:=R.live i bi g1';obtain⟨by',oy,p2,_,_⟩:=R.live j bj g2';rw[hφ0 i (hlt i _ p1)] at x3;rw[hφ0 j (hlt j _ p2)] at x4;exact R.inj i j bi bj b o o' g1' g2' x3 x4
 ·obtain⟨id,box,o,hg,hb⟩:=ho;rcases hget id box hg with⟨i,bx,q1,q2,_,_⟩|hg
  ·rw[hφ id i q1] at hb;exact .inl (hnew b ⟨i,bx,o,q2,hb⟩)
  ·obtain⟨bx,ox,p1,_,_⟩:=R.live id box hg;rw[hφ0 id (hlt id _ p1)] at hb;exact .inr ⟨id,box,o,hg,hb⟩
theorem Pk.of_v {P:Program}{ti:TI}(hm:P.follows .mixedOrders=true) (T:TOk P ti){g:FuncId}{fn:Func}{code:Code}{ds:List D}{k:Nat}{d:Nat->D}{bs:Nat->List (Nat×Box)}(hg:P.funcs[g]?=some fn) (hb:fn.body=some code) (hn:(fn.name == "runtime.NumGoroutine")=false) (hd:aK ds=true)
  (h:gR P ti 0 code (endN ti fn k d bs) ⟨ds++List.replicate (fn.ntmps-ds.length) aM,⟨0,[]⟩⟩):Pk P g ds k d bs:=by
 intro h0;refine⟨by unfold dK;rw[hg];simp[hb,hn],λc vs R hvs=>?_⟩;refine(callsIn_wide (n:=0)).1 (callsIn_of_wp hg hb trivial ?_);have R0:Rel { c with φ:=λ_=>none } ⟨0,[]⟩:=⟨R.size,λ_ _=>rfl,λid box hg=>by simp[aB.get,ac] at hg,λid id' box box' b o o' hg=>by simp[aB.get,ac] at hg,GT.keep (c:=c) (λ_ h=>h) (λ_ _=>rfl) R.inv⟩;have hvs0:VS { c with φ:=λ_=>none } ds vs:=VS.move (c:=c) (c':={ c with φ:=λ_=>none }) (λb hb=>⟨hb,rfl⟩) ds vs hd hvs
 have hfit:Fit { c with φ:=λ_=>none } ⟨ds++List.replicate (fn.ntmps-ds.length) aM,⟨0,[]⟩⟩ { tmps:=vs.toArray++Array.replicate (fn.ntmps-vs.toArray.size) undef,defers:=[] }:=by
  refine⟨R0,?_⟩;simp only[Array.toList_append,Array.toList_replicate,List.size_toArray];rw[hvs.length];exact hvs0.append (VS.replicate V.undef _)
 refine(bK hm T code _ _ h).run { c with φ:=λ_=>none } ⟨0,[]⟩ { c with φ:=λ_=>none } _ _ ⟨rfl,λ_ _=>rfl,aZ.refl _ _,λ_ _=>rfl⟩ hfit λe s' c1 a' hq f1 b1 d1=>?_
 have key:(match gu ti fn s' with|some d0=>∃ olds,olds.length=k∧E5 s'.h d0 olds d bs|none=>False)->∃ v c',(results fn a'.tmps).run P c1.w=.ok v c1.w∧c'.w=c1.w∧V c' (d h0.next) v∧Rel c' ⟨h0.next+k,bs h0.next++h0.bs⟩∧aZ c h0 c' ⟨h0.next+k,bs h0.next++h0.bs⟩∧∀ j,j<h0.next->c'.φ j=c.φ j:=λhq=>by
  split at hq
  ·rename_i d0 hr;obtain⟨olds,hlen,hq'⟩:=hq;subst hlen;obtain⟨v,e1,v1⟩:=dN (P:=P) T f1 hr;obtain⟨c',k1,k2,k3,k4,k5⟩:=DT R f1.rel b1.grow hq' v1;exact⟨v,c',e1,k1,k2,k3,k4,k5⟩
  ·exact hq.elim
 cases e with
 | normal=>
  obtain⟨v,c',e1,k1,k2,k3,k4,k5⟩:=key hq;exact⟨d1,v,e1,v,c',rfl,k1,k2,k3,k4,k5⟩
 | ret=>
  obtain⟨v,c',e1,k1,k2,k3,k4,k5⟩:=key hq;exact⟨d1,v,e1,v,c',rfl,k1,k2,k3,k4,k5⟩
 | _=>exact hq.elim
end Go.Am
/-
 The abstract machine,part 35: lists as data;what is shown at the marks.
-/
namespace Go.Am
variable [GT]
abbrev Str:=List UInt8
abbrev aO:D:=.v (.slice none 0 0)
def lst {α:Type}(f:α->D) (l:List α):D:=.imm l.length (l.map f)
def lstS {α:Type}(c:α->List D) (l:List α):D:=.imm l.length (l.flatMap c)
abbrev aF (l:List Int):D:=lst i64 l
abbrev strs (l:List Str):D:=lst D.str l
abbrev iu (l:List (List Int)):D:=lst aF l
theorem aN {α:Type}{f:α->D}(h:∀ x,aL (f x)=true):∀ l:List α,aK (l.map f)=true
 | []=>rfl
 | x::l=>by simp[aK,h,aN h l]
theorem fU:∀ a b:List D,aK (a++b)=(aK a&&aK b)
 | [],b=>by simp[aK]
 | x::a,b=>by simp[aK,fU a b,Bool.and_assoc]
theorem aG {α:Type}{c:α->List D}(h:∀ x,aK (c x)=true):∀ l:List α,aK (l.flatMap c)=true
 | []=>rfl
 | x::l=>by simp[fU,h,aG h l]
theorem gJ {α:Type}{f:α->D}(h:∀ x,aL (f x)=true) (l:List α):aL (lst f l)=true:=by
 simp only[lst,aL];exact aN h l
theorem jO {α:Type}{c:α->List D}(h:∀ x,aK (c x)=true) (l:List α):aL (lstS c l)=true:=by
 simp only[lstS,aL];exact aG h l
theorem aC (l:List Int):aL (aF l)=true:=gJ (λ_=>rfl) l
theorem mC (l:List Str):aL (strs l)=true:=gJ (λ_=>rfl) l
theorem ol (l:List (List Int)):aL (iu l)=true:=gJ aC l
theorem lZ {α:Type}{f:α->D}{l:List α}{k:Nat}(h:k<l.length):((l.map f).drop k).take 1=[f l[k]]:=by
 rw[kK (by simpa using h)];simp
theorem aW {α:Type}{c:α->List D}{sz:Nat}(hc:∀ x,(c x).length=sz):∀ l:List α,(l.flatMap c).length=l.length*sz
 | []=>by simp
 | x::l=>by simp only[List.flatMap_cons,kG,hc,aW hc l,kO,Nat.add_mul];omega
theorem eW {α:Type}{c:α->List D}{sz:Nat}(hc:∀ x,(c x).length=sz):∀ {l:List α}{k:Nat}(h:k<l.length),((l.flatMap c).drop (k*sz)).take sz=c l[k]
 | [],k,h=>by simp at h
 | x::l,0,h=>by simp[<-hc x]
 | x::l,k+1,h=>by
  simp only[List.flatMap_cons,List.getElem_cons_succ];rw[List.drop_append,List.drop_eq_nil_of_le (by rw[hc,Nat.add_mul];omega),hc,show(k+1)*sz-sz=k*sz from by rw[Nat.add_mul];omega];simpa using eW hc (by simpa using h)
theorem Idx.lst {α:Type}{f:α->D}{l:List α}{k:Nat}{K:D->Prop}(h:k<l.length) (go:K (.iptr [f l[k]])):Idx l.length (l.map f) 1 (k:Int) K:=by
 refine⟨by omega,by simpa using h,by simp,?_⟩;simp only[Int.toNat_natCast,Nat.mul_one];rw[lZ h];exact go
theorem Idx.lstS {α:Type}{c:α->List D}{sz:Nat}(hc:∀ x,(c x).length=sz){l:List α}{k:Nat}{K:D->Prop}(h:k<l.length) (go:K (.iptr (c l[k]))):Idx l.length (l.flatMap c) sz (k:Int) K:=by
 refine⟨by omega,by simpa using h,aW hc l,?_⟩;simp only[Int.toNat_natCast];rw[eW hc h];exact go
theorem Idx.at {α:Type}{f:α->D}{l:List α}{m:Int}(k:Nat){K:D->Prop}(e:m=(k:Int)) (h:k<l.length) (go:K (.iptr [f l[k]])):Idx l.length (l.map f) 1 m K:=by
 subst e;exact Idx.lst h go
theorem Idx.atS {α:Type}{c:α->List D}{sz:Nat}(hc:∀ x,(c x).length=sz){l:List α}{m:Int}(k:Nat){K:D->Prop}(e:m=(k:Int)) (h:k<l.length) (go:K (.iptr (c l[k]))):Idx l.length (l.flatMap c) sz m K:=by
 subst e;exact Idx.lstS hc h go
theorem cA.nat {id off n es k:Nat}{K:D->Prop}(h:k<n) (go:K (.ptr id (off+k*es))):cA id off n es (k:Int) K:=⟨by omega,by simpa using h,go⟩
theorem cA.lit {id off n es:Nat}{m:Int}{K:D->Prop}(go:K (.ptr id (off+m.toNat*es))) (h0:0<=m:=by decide) (h1:m.toNat<n:=by decide):cA id off n es m K:=⟨h0,h1,go⟩
theorem cA.at {id off n es:Nat}{m:Int}(k:Nat){K:D->Prop}(e:m=(k:Int)) (h:k<n) (go:K (.ptr id (off+k*es))):cA id off n es m K:=by subst e;exact cA.nat h go
theorem FB.nat {s:List UInt8}{k:Nat}{K:D->Prop}(h:k<s.length) (go:K (.v (.int .u8 s[k].toNat))):FB s (k:Int) K:=⟨by omega,by simpa using h,go⟩
theorem Get.exp {cs:List D}{off sz:Nat}{K:List D->Prop}(h:Nat.ble (off+sz) cs.length=true) (go:K ((cs.drop off).take sz)):Get cs off sz K:=⟨kD h,go⟩
theorem Get.map {α:Type}{f:α->D}{l:List α}{k:Nat}{K:List D->Prop}(h:k<l.length) (go:K [f l[k]]):Get (l.map f) (0+k*1) 1 K:=by
 refine⟨by simp;omega,?_⟩;rw[show 0+k*1=k from by omega,lZ h];exact go
theorem Put.exp {cs:List D}{off:Nat}{ds:List D}{K:List D->Prop}(h:Nat.ble (off+ds.length) cs.length=true) (go:K (splice cs off ds)):Put cs off ds K:=⟨kD h,go⟩
theorem jF {cs:List D}{k:Nat}{d:D}(h:k<cs.length):splice cs k [d]=cs.set k d:=by
 unfold splice;rw[List.set_eq_take_append_cons_drop,if_pos h];simp
theorem Put.one {cs:List D}{k:Nat}{d:D}{K:List D->Prop}(h:k<cs.length) (go:K (cs.set k d)):Put cs (0+k*1) [d] K:=by
 rw[show 0+k*1=k from by omega];exact⟨by simp;omega,by rw[jF h];exact go⟩
theorem dC.exp {h:aB}{es:Nat}{x:D}{K:Nat->List D->Prop}{n:Nat}{xs:List D}(e:cE h es x=some (n,xs)) (go:K n xs):dC h es x K:=⟨n,xs,e,go⟩
theorem dC.lst {α:Type}{f:α->D}{h:aB}{l:List α}{K:Nat->List D->Prop}(go:K l.length (l.map f)):dC h 1 (.imm l.length (l.map f)) K:=⟨_,_,by simp[cE],go⟩
theorem Cll.pu {P:Program}{g:FuncId}{ds:List D}{h:aB}{K:D->aB->Prop}{d:D}(hp:Pu P g ds d) (go:K d h):Cll P g ds h K:=⟨d,h,hp h,go⟩
theorem Cll.pk {P:Program}{g:FuncId}{ds:List D}{n:Nat}{b0:List (Nat×Box)}{K:D->aB->Prop}{k:Nat}{d:Nat->D}{bs:Nat->List (Nat×Box)}(hp:Pk P g ds k d bs) (go:K (d n) ⟨n+k,bs n++b0⟩):Cll P g ds ⟨n,b0⟩ K:=⟨_,_,hp ⟨n,b0⟩,go⟩
theorem CY.pu {P:Program}{g:FuncId}{ds:List D}{K:D->Prop}{d:D}(hp:Pu P g ds d) (go:K d):CY P g ds K:=⟨d,hp,go⟩
def sa {α:Type}(k:Str):List (Str×α)->Nat->Option (Nat×α)
 | [],_=>none
 | (k',x)::m,i=>if k=k' then some (i,x) else sa k m (i+1)
theorem oJ {α:Type}{f:α->D}{h:aB}{k:Str}:∀ {m:List (Str×α)}{i:Nat},bo h (.str k) (m.map λp=>(D.str p.1,f p.2)) i=some ((sa k m i).map λq=>(q.1,f q.2))
 | [],i=>rfl
 | (k',x)::m,i=>by
  simp only[List.map_cons,bo,az,sa];by_cases e:k=k'
  ·subst e;simp
  ·rw[beq_eq_false_iff_ne.2 e,if_neg e];exact oJ
theorem cB.str {α:Type}{f:α->D}{h:aB}{k:Str}{m:List (Str×α)}{K:Option (Nat×D)->Prop}(yes:∀ i x,sa k m 0=some (i,x)->K (some (i,f x))) (no:sa k m 0=none->K none):cB h (.str k) (m.map λp=>(D.str p.1,f p.2)) K:=by
 cases hl:sa k m 0 with
 | none=>exact⟨none,by rw[oJ,hl];rfl,no hl⟩
 | some q=>exact⟨some (q.1,f q.2),by rw[oJ,hl];rfl,yes q.1 q.2 hl⟩
theorem s5 {d:D}{h:aB}{k:Str}:∀ {l:List Str}{i:Nat},∃ r,bo h (.str k) (l.map λs=>(D.str s,d)) i=some r∧((k∈l∧∃ j,r=some (j,d))∨(¬k∈l∧r=none))
 | [],i=>⟨none,rfl,.inr ⟨by simp,rfl⟩⟩
 | k' :: l,i=>by
  simp only[List.map_cons,bo,az];by_cases e:k=k'
  ·subst e;simp
  ·rw[beq_eq_false_iff_ne.2 e];obtain⟨r,h1,h2⟩:=s5 (d:=d) (h:=h) (k:=k) (l:=l) (i:=i+1);exact⟨r,h1,by simpa [e] using h2⟩
theorem cB.set {d:D}{h:aB}{k:Str}{l:List Str}{K:Option (Nat×D)->Prop}(yes:∀ i,k∈l->K (some (i,d))) (no:¬k∈l->K none):cB h (.str k) (l.map λs=>(D.str s,d)) K:=by
 obtain⟨r,h1,h2⟩:=s5 (d:=d) (h:=h) (k:=k) (l:=l) (i:=0);rcases h2 with⟨h2,j,rfl⟩|⟨h2,rfl⟩
 ·exact⟨_,h1,yes j h2⟩
 ·exact⟨_,h1,no h2⟩
def pos (l:List Str) (i:Nat):List (D×D):=l.zipIdx i |>.map λp=>(D.str p.1,i64 (p.2:Int))
theorem s6 {h:aB}{k:Str}:∀ {l:List Str}{n i:Nat},∃ r,bo h (.str k) (pos l n) i=some r∧((k∈l∧r=some (i+l.idxOf k,i64 ((n+l.idxOf k:Nat):Int)))∨(¬k∈l∧r=none))
 | [],n,i=>⟨none,rfl,.inr ⟨by simp,rfl⟩⟩
 | k' :: l,n,i=>by
  simp only[pos,List.zipIdx_cons,List.map_cons,bo,az];by_cases e:k=k'
  ·subst e;exact⟨some (i,i64 (n:Int)),by simp,.inl ⟨by simp,by simp⟩⟩
  ·rw[beq_eq_false_iff_ne.2 e];obtain⟨r,h1,h2⟩:=s6 (h:=h) (k:=k) (l:=l) (n:=n+1) (i:=i+1);refine⟨r,h1,?_⟩;have e':¬k'=k:=λx=>e x.symm
   rcases h2 with⟨h2,h3⟩|⟨h2,h3⟩
   ·refine .inl ⟨by simp[h2],?_⟩;rw[h3,List.idxOf_cons,beq_eq_false_iff_ne.2 e'];simp only[cond_false];congr 2
    ·omega
    ·congr 2;omega
   ·exact .inr ⟨by simp[e,h2],h3⟩
theorem cB.pos {h:aB}{k:Str}{l:List Str}{K:Option (Nat×D)->Prop}(yes:∀ i,k∈l->K (some (i,i64 (l.idxOf k:Int)))) (no:¬k∈l->K none):cB h (.str k) (pos l 0) K:=by
 obtain⟨r,h1,h2⟩:=s6 (h:=h) (k:=k) (l:=l) (n:=0) (i:=0);rcases h2 with⟨h2,rfl⟩|⟨h2,rfl⟩
 ·exact⟨_,h1,by simpa using yes _ h2⟩
 ·exact⟨_,h1,no h2⟩
theorem ye (l m:List Str) (n:Nat):Am.pos (l++m) n=Am.pos l n++Am.pos m (n+l.length):=by
 simp[Am.pos,List.zipIdx_append]
theorem oC:∀ (l:List Str) (n:Nat),∀ p∈pos l n,aL p.1=true∧aL p.2=true:=by
 intro l n p hp;simp only[pos,List.mem_map] at hp;obtain⟨q,_,rfl⟩:=hp;exact⟨rfl,rfl⟩
theorem Lf.of2 {nb:Nat}{tm:List D}{h:aB}{n nx:Nat}{l:List (Nat×D)}{bs:List (Nat×Box)}(σl:List (Nat×Nat)) (fzl:List Nat)
  (he:rr h (fzn fzl) (sgm nb σl) tm l) (hb:Bxs h (fzn fzl) (sgm nb σl) bs) (hp:fq nb nx σl=true) (hn:tm.length=n):Lf nb ⟨tm,h⟩ ⟨tmp n l,⟨nx,bs⟩⟩:=Lf.of σl fzl hn hp he hb
theorem Res.eqs {h:aB}{fz:Nat->Bool}{σ:Nat->Option Nat}{d d':List (D×D)}(e:d=d') (hn:∀ p∈d',aL p.1=true∧aL p.2=true):Res h fz σ d d':=by subst e;exact .same hn
theorem aS {α:Type}{l:List α}{k:Nat}(h:k<l.length):l.take (k+1)=l.take k++[l[k]]:=(List.take_append_getElem h).symm
theorem nA {α β:Type}{f:α->β}{l:List α}{k:Nat}(h:k<l.length):(l.take k).map f++[f l[k]]=(l.take (k+1)).map f:=by rw[aS h,List.map_append];rfl
theorem oB {d:D}(hd:aL d=true) (l:List Str):∀ p∈l.map (λs=>(D.str s,d)),aL p.1=true∧aL p.2=true:=by
 intro p hp;simp only[List.mem_map] at hp;obtain⟨s,_,rfl⟩:=hp;exact⟨rfl,hd⟩
theorem DO {l:List Str}{k:Nat}(h:k<l.length):pos (l.take k) 0++[(D.str l[k],i64 (k:Int))]=pos (l.take (k+1)) 0:=by
 rw[aS h,ye,List.length_take,Nat.min_eq_left om];simp[pos]
theorem aE.v {h:aB}{x y:Value}(e:x=y):aE h (.v x) (.v y):=⟨by subst e;exact .same rfl⟩
theorem aE.int {h:aB}{k:IntKind}{x y:Int}(e:x=y):aE h (.v (.int k x)) (.v (.int k y)):=⟨by subst e;exact .same rfl⟩
theorem aE.yes {h:aB}{p:Prop} [Decidable p] (hp:p):aE h (boo true) (boo (decide p)):=⟨by rw[decide_eq_true hp];exact .same rfl⟩
theorem aE.no {h:aB}{p:Prop} [Decidable p] (hp:¬p):aE h (boo false) (boo (decide p)):=⟨by rw[decide_eq_false hp];exact .same rfl⟩
theorem aE.same {h:aB}{d d':D}(hn:aL d=true) (e:d=d'):aE h d d':=⟨by subst e;exact .same hn⟩
theorem Rd.eqd {h:aB}{fz:Nat->Bool}{σ:Nat->Option Nat}{d d':D}(e:d=d') (hn:aL d'=true):Rd h fz σ d d':=by subst e;exact .same hn
theorem Rd.int {h:aB}{fz:Nat->Bool}{σ:Nat->Option Nat}{k:IntKind}{x y:Int}(e:x=y):Rd h fz σ (.v (.int k x)) (.v (.int k y)):=by subst e;exact .same rfl
theorem Rds.eqs {h:aB}{fz:Nat->Bool}{σ:Nat->Option Nat}{d d':List D}(e:d=d') (hn:aK d'=true):Rds h fz σ d d':=by subst e;exact .same hn
theorem Rd.sl' {h:aB}{fz:Nat->Bool}{σ:Nat->Option Nat}{id id' off n cap es:Nat}{ex:Bool}{n' cap':Nat}(hs:σ id'=some id) (e:n=n') (e':cap=cap'):Rd h fz σ (.sl id off n cap es ex) (.sl id' off n' cap' es ex):=by subst e;subst e';exact .sl hs
def fB {α:Type}(id es:Nat):List α->D
 | []=>aO
 | x::l=>.sl id 0 (x::l).length (x::l).length es false
def gA {α:Type}(id:Nat) (c:α->List D):List α->List (Nat×Box)
 | []=>[]
 | x::l=>[(id,.cells ((x::l).flatMap c) false)]
theorem Rd.own {h:aB}{fz:Nat->Bool}{σ:Nat->Option Nat}{α:Type}{id id' n cap es:Nat}{l:List α}(hl:l≠[]) (hs:σ id'=some id) (e:n=l.length) (e':cap=l.length):Rd h fz σ (.sl id 0 n cap es false) (fB id' es l):=by
 subst e;subst e';cases l with
 | nil=>exact absurd rfl hl
 | cons x l=>exact .sl hs
theorem Bxs.own {h:aB}{fz:Nat->Bool}{σ:Nat->Option Nat}{α:Type}{id id':Nat}{c:α->List D}{l:List α}{cs:List D}{bx:Bool}{rest:List (Nat×Box)}(hl:l≠[]) (hs:σ id'=some id) (hg:h.get id=some (.cells cs bx)) (hf:fz id=false) (e:cs=l.flatMap c) (hn:∀ x,aK (c x)=true) (hr:Bxs h fz σ rest):Bxs h fz σ (gA id' c l++rest):=by
 cases l with
 | nil=>exact absurd rfl hl
 | cons x l=>exact .cons hs hg hf (.cells (.eqs e (aG hn _)) si) hr
theorem aE.own {α:Type}{id es n:Nat}{c:α->List D}{l:List α}{rest:List (Nat×Box)}(hc:∀ x,(c x).length=es) (hn:∀ x,aK (c x)=true):aE ⟨n,gA id c l++rest⟩ (fB id es l) (lstS c l):=by
 cases l with
 | nil=>exact⟨.nil⟩
 | cons x l=>
  refine⟨.frz (bx:=false) (cs:=(x::l).flatMap c) rfl (by simp[aB.get,gA,ac]) (by rw[aW hc];omega) (.eqs ?_ (aG hn _))⟩;rw[List.drop_zero,kE (by rw[aW hc];exact kP _)]
theorem ae {α:Type}{c:α->List D}{sz:Nat}(hc:∀ x,(c x).length=sz) (l:List α) (v:α):((l.flatMap c).drop 0).take (l.length*sz)++c v=(l++[v]).flatMap c:=by
 rw[List.drop_zero,kE (by rw[aW hc];exact kP _),List.flatMap_append];simp
theorem Chk.room {a b:Nat}{K:Prop}(c:Nat) (e:b=c) (h1:a*c<=1099511627776) (h2:a<=1099511627776) (go:K):Chk (a*b<=ab∧a<=ab) K:=⟨by subst e;exact⟨h1,h2⟩,go⟩
theorem Chk.grow {α:Type}{c0:α->List D}{l:List α}{es a b:Nat}{K:Prop}(hc:∀ x,(c0 x).length=es) (c:Nat) (e:b=c) (h1:a*c<=1099511627776) (h2:a<=1099511627776) (go:K):Chk (a*b<=ab∧a<=ab∧0+l.length*es<=(l.flatMap c0).length) K:=⟨by subst e;exact⟨h1,h2,by rw[aW hc];omega⟩,go⟩
theorem Chk.made {n:Int}{b:Nat}{K:Prop}(c:Nat) (e:b=c) (h0:0<=n) (h1:n.toNat*c<=1099511627776) (h2:n.toNat<=1099511627776) (go:K):Chk (0<=n∧n<=n∧n.toNat<=ab∧n.toNat*b<=ab) K:=⟨by subst e;exact⟨h0,Int.le_refl _,h2,h1⟩,go⟩
theorem ge {α:Type}{f:α->D}:∀ l:List α,(l.flatMap λx=>[f x])=l.map f
 | []=>rfl
 | x::l=>by simp[ge l]
theorem wZ {α:Type}{f:α->D}(l:List α):lstS (λx=>[f x]) l=lst f l:=by simp only[lstS,lst,ge]
theorem aE.own1 {α:Type}{id n:Nat}{f:α->D}{l:List α}{rest:List (Nat×Box)}(hn:∀ x,aL (f x)=true):aE ⟨n,gA id (λx=>[f x]) l++rest⟩ (fB id 1 l) (lst f l):=by
 rw[<-wZ];exact aE.own (λ_=>rfl) (λx=>by simp[aK,hn])
def nN {α:Type}(f:α->D) (z:D) (l:List α) (k:Nat):List D:=(l.take k).map f++List.replicate (l.length-k) z
theorem rK {α:Type}{f:α->D}{z:D}{l:List α}{k:Nat}(h:k<l.length):(nN f z l k).set k (f l[k])=nN f z l (k+1):=by
 unfold nN;have e:l.length-k=(l.length-(k+1))+1:=by omega
 rw[List.set_append_right _ _ (by simp;omega),List.length_map,List.length_take,Nat.min_eq_left om,Nat.sub_self,e,List.replicate_succ,List.set_cons_zero,<-nA h];simp
theorem EO {α:Type}{f:α->D}{z:D}{l:List α}{k:Nat}(h:l.length<=k):nN f z l k=l.map f:=by
 unfold nN;rw[kE h,show l.length-k=0 from by omega];simp
theorem qp {z:D}(h:aL z=true):∀ n,aK (List.replicate n z)=true
 | 0=>rfl
 | n+1=>by simp[List.replicate_succ,aK,h,qp h n]
theorem fd {α:Type}{f:α->D}{z:D}{l:List α}{k:Nat}(hf:∀ x,aL (f x)=true) (hz:aL z=true):aK (nN f z l k)=true:=by
 rw[nN,fU,aN hf,qp hz];rfl
theorem cY {d:D}:∀ n,cx [d] n=List.replicate n d
 | 0=>rfl
 | n+1=>by simp only[cx,cY n,List.replicate_succ];rfl
theorem xx {α:Type}{f:α->D}{z:D}(l:List α):cx [z] (l.length:Int).toNat=nN f z l 0:=by
 rw[cY];simp[nN]
theorem aE.frz1 {id n n':Nat}{ex bx:Bool}{α:Type}{f:α->D}{l:List α}{h:aB}{cs:List D}{cap:Nat}(hg:h.get id=some (.cells cs bx)) (e:cs=l.map f) (hn:n'=l.length) (hf:∀ x,aL (f x)=true) (hx:n=1):aE h (.sl id 0 n' cap n ex) (lst f l):=by
 subst e;subst hn;subst hx;refine⟨.frz rfl hg si (.eqs ?_ (aN hf _))⟩;rw[List.drop_zero,kE si]
end Go.Am
/-
 The abstract machine,part 36: what a statement's arguments read as,as abstract values.
-/
namespace Go.Am
variable [GT]
def all (w:World):Ctx:=⟨λb=>b<w.heap.size,λ_=>none,w⟩
def bV (P:Program) (t:TypeId){A:Type}(f:A->List D) (ok:A->Prop):Prop:=
 ∀ (H:Type) (enc:TypeId×Value->H) (w:World) (sp:Nat->Bool) (fuel:Nat) (cs:List Value) (d:DataW H) (ps:List MemPlace),DataW.trod enc P w 0 sp true fuel t cs=some (d,ps)->∃ a,ok a∧VS (all w) (f a) cs
section
variable {P:Program}
theorem bV.i64 {t:TypeId}(ht:P.underlying t=some (.int .i64)):bV P t (λn:Int=>[.v (.int .i64 n)]) (λn=>-9223372036854775808<=n∧n<=9223372036854775807):=by
 intro H enc w sp fuel cs d ps h;cases fuel with
 | zero=>simp[DataW.trod] at h
 | succ fuel=>
  unfold DataW.trod at h;rw[ht] at h;split at h;all_goals(rename_i e;try(cases e;done))
  ·rename_i k k' n;cases e;split at h
   ·rename_i hc;obtain⟨rfl,hw⟩:=hc;refine⟨n,?_,VS.cons (by simp[V,c7]) VS.nil⟩;simp only[Lit.wf,IntKind.min,IntKind.max,IntKind.signed,IntKind.bits,kC,decide_eq_true_eq] at hw;simp at hw;omega
   ·simp at h
  ·simp at h
theorem bV.str {t:TypeId}(ht:P.underlying t=some .string):bV P t (λs:Str=>[.str s]) (λs=>s.length<=9223372036854775807):=by
 intro H enc w sp fuel cs d ps h;cases fuel with
 | zero=>simp[DataW.trod] at h
 | succ fuel=>
  unfold DataW.trod at h;rw[ht] at h;split at h;all_goals(rename_i e;try(cases e;done))
  ·rename_i s;split at h
   ·rename_i hc;refine⟨s.data.toList,?_,VS.cons (by simp[V]) VS.nil⟩;simp only[maxLen] at hc;simpa using hc
   ·simp at h
  ·simp at h
theorem bV.map {t:TypeId}{A B:Type}{f:A->List D}{ok:A->Prop}{g:B->List D}{ok':B->Prop}(h:bV P t f ok) (φ:A->B) (hf:∀ a,g (φ a)=f a) (ho:∀ a,ok a->ok' (φ a)):bV P t g ok':=λH enc w sp fuel cs d ps hd=>by
 obtain⟨a,h1,h2⟩:=h H enc w sp fuel cs d ps hd;exact⟨φ a,ho a h1,by rw[hf];exact h2⟩
theorem bV.slice {t e:TypeId}(ht:P.underlying t=some (.slice e)){A:Type}{f:A->List D}{ok:A->Prop}(he:bV P e f ok){sz:Nat}(hsz:P.cellsOf e=sz) (hpos:0<sz) :
  bV P t (λl:List A=>[.imm l.length (l.flatMap f)]) (λl=>l.length<=9223372036854775807∧∀ i (h:i<l.length),ok l[i]):=by
 intro H enc w sp fuel cs d ps h;cases fuel with
 | zero=>simp[DataW.trod] at h
 | succ fuel=>
  unfold DataW.trod at h;rw[ht] at h;split at h;all_goals(rename_i e';try(cases e';done))
  ·exact⟨[],⟨by simp,by simp⟩,VS.cons (by simp only[V];exact⟨none,0,[],rfl,kP _,VS.nil,.inl rfl⟩) VS.nil⟩
  ·rename_i e1 a len cap;cases e';simp only at h;split at h
   ·rename_i hc;obtain⟨_,hlc,hcm⟩:=hc;cases hel:(List.range len).mapM (λi=>(w.cells? 0 (a.add (i*P.cellsOf e)) (P.cellsOf e)).bind (DataW.trod enc P w 0 sp true fuel e)) with
    | none=>rw[hel] at h;simp at h
    | some elems=>
     have hlen:elems.length=len:=by simpa using mapM_some_length hel
     have hget:∀ i,i<len->∃ x cs',ok x∧VS (all w) (f x) cs'∧cs'.length=sz∧∀ j,j<sz->w.cell? ((a.add (i*sz)).add j)=cs'[j]?:=λi hi=>by
      have h1:=mapM_some_get hel i i (by simp[hi]);rw[List.getElem?_eq_getElem om] at h1;obtain⟨cs',h2,h3⟩:=Option.bind_eq_some_iff.1 h1;obtain⟨x,h4,h5⟩:=he H enc w sp fuel cs' _ _ h3;obtain⟨_,h6,h7⟩:=World.cells?_some h2;rw[hsz] at h6 h7;exact⟨x,cs',h4,h5,h6,h7⟩
     have hspot:0<len->a.spot=none:=λhl=>by
      obtain⟨x,cs',_,_,h3,h4⟩:=hget 0 hl;have h5:=h4 0 hpos;rw[List.getElem?_eq_getElem om] at h5;have e0:(a.add (0*sz)).add 0=a:=by simp[Addr.add]
      rw[e0] at h5;unfold World.cell? at h5;split at h5
      ·split at h5
       ·simp at h5
       ·rename_i hs;simpa using hs
      ·simp at h5
     have key:∀ n,n<=len->∃ l:List A,l.length=n∧(∀ i (h:i<l.length),ok l[i])∧∃ ys,VS (all w) (l.flatMap f) ys∧ys.length=n*sz∧∀ j,j<n*sz->w.cell? ⟨a.block,a.off+j,none⟩=ys[j]?:=by
      intro n
      induction n with
      | zero=>intro _;exact⟨[],rfl,by simp,[],VS.nil,by simp,by simp⟩
      | succ n ih=>
       intro hn;obtain⟨l,h1,h2,ys,h3,h4,h5⟩:=ih om;obtain⟨x,cs',g1,g2,g3,g4⟩:=hget n om;have ha:a=⟨a.block,a.off,none⟩:=by have:=hspot om;cases a;simp_all
       refine⟨l++[x],by simp[h1],λi hi=>?_,ys++cs',?_,by simp[h4,g3,Nat.add_mul],λj hj=>?_⟩
       ·rw[List.getElem_append];split
        ·rename_i hlt;exact h2 i hlt
        ·simp only[List.getElem_singleton];exact g1
       ·rw[List.flatMap_append];exact h3.append (by simpa using g2)
       ·by_cases hlt:j<n*sz
        ·rw[List.getElem?_append_left om];exact h5 j hlt
        ·rw[List.getElem?_append_right om,h4];have hj':j-n*sz<sz:=by rw[Nat.add_mul] at hj;omega
         have:=g4 (j-n*sz) hj'
         rw[ha,cP,cP] at this;rw[show a.off+n*sz+(j-n*sz)=a.off+j from by omega] at this;exact this
     obtain⟨l,h1,h2,ys,h3,h4,h5⟩:=key len (kP _);refine⟨l,⟨by simp only[maxLen] at hcm;omega,h2⟩,VS.cons ?_ VS.nil⟩;simp only[V];refine⟨some a,cap,ys,by rw[h1],by omega,h3,?_⟩;by_cases hl:ys=[]
     ·exact .inl hl
     ·right;have hp0:0<ys.length:=List.length_pos_iff.2 hl;have hlp:0<len:=Nat.pos_of_ne_zero λe0=>by rw[h4,e0] at hp0;simp at hp0
      have ha:a=⟨a.block,a.off,none⟩:=by have:=hspot hlp;cases a;simp_all
      refine⟨a.block,a.off,by rw[<-ha],?_,λi hi=>?_⟩
      ·have h0:=h5 0 om;rw[List.getElem?_eq_getElem hp0] at h0;unfold World.cell? at h0;show a.block<w.heap.size;split at h0
       ·rename_i hb;exact(Array.getElem?_eq_some_iff.1 hb).1
       ·simp at h0
      ·show w.cell? _=_;rw[h5 i om,List.getElem?_eq_getElem hi]
   ·simp at h
  ·simp at h
def cH (P:Program) (tot:Nat) (off:Nat) (fs:List Field){A:Type}(f:A->List D) (ok:A->Prop):Prop:=
 ∀ (H:Type) (enc:TypeId×Value->H) (w:World) (sp:Nat->Bool) (fuel:Nat) (cs:List Value) (xs:List (DataW H×List MemPlace)),cs.length=tot ->
  fs.mapM (λf=>DataW.trod enc P w 0 sp true fuel f.type ((cs.drop f.offset).take (P.cellsOf f.type)))=some xs->∃ a,ok a∧VS (all w) (f a) (cs.drop off)
theorem cH.nil {tot:Nat}:cH P tot tot [] (λ_:Unit=>[]) (λ_=>True):=λH enc w sp fuel cs xs hl _=>⟨(),trivial,by rw[List.drop_eq_nil_of_le om];exact VS.nil⟩
theorem cH.cons {tot off:Nat}{fl:Field}{fs:List Field}{A B:Type}{f:A->List D}{ok:A->Prop}{g:B->List D}{ok':B->Prop}{sz:Nat}(hf:bV P fl.type f ok) (ho:fl.offset=off) (hs:P.cellsOf fl.type=sz) (hr:cH P tot (off+sz) fs g ok') :
  cH P tot off (fl::fs) (λx:A×B=>f x.1++g x.2) (λx=>ok x.1∧ok' x.2):=λH enc w sp fuel cs xs hl h=>by
 rw[List.mapM_cons] at h;cases h1:DataW.trod enc P w 0 sp true fuel fl.type ((cs.drop fl.offset).take (P.cellsOf fl.type)) with
 | none=>simp[h1] at h
 | some x=>
  cases h2:fs.mapM (λf=>DataW.trod enc P w 0 sp true fuel f.type ((cs.drop f.offset).take (P.cellsOf f.type))) with
  | none=>simp[h1,h2] at h
  | some ys=>
   obtain⟨a,k1,k2⟩:=hf H enc w sp fuel _ _ _ h1;obtain⟨b,k3,k4⟩:=hr H enc w sp fuel cs ys hl h2;refine⟨(a,b),⟨k1,k3⟩,?_⟩;rw[ho,hs] at k2;have:=k2.append k4
   rw[show cs.drop (off+sz)=(cs.drop off).drop sz from by rw[List.drop_drop],List.take_append_drop] at this;exact this
theorem bV.struct {t:TypeId}{fs:Array Field}(ht:P.underlying t=some (.struct fs)){A:Type}{f:A->List D}{ok:A->Prop}{tot:Nat}(hc:P.cellsOf t=tot) (hf:cH P tot 0 fs.toList f ok):bV P t f ok:=by
 intro H enc w sp fuel cs d ps h;cases fuel with
 | zero=>simp[DataW.trod] at h
 | succ fuel=>
  unfold DataW.trod at h;rw[ht] at h;change(if cs.length=P.cellsOf t then(fs.toList.mapM λf=>DataW.trod enc P w 0 sp true fuel f.type ((cs.drop f.offset).take (P.cellsOf f.type))).map λxs=>(.agg (xs.map (·.1)),xs.flatMap (·.2)) else none)=some (d,ps) at h;split at h
  ·rename_i hl;cases hm:fs.toList.mapM (λf=>DataW.trod enc P w 0 sp true fuel f.type ((cs.drop f.offset).take (P.cellsOf f.type))) with
   | none=>rw[hm] at h;simp at h
   | some xs=>
    obtain⟨a,h1,h2⟩:=hf H enc w sp fuel cs xs (by rw[hl,hc]) hm;exact⟨a,h1,by simpa using h2⟩
  ·simp at h
theorem uG {t e:TypeId}(ht:P.underlying t=some (.slice e)){W:World}{r:Reach}{base:Nat}{v:Value}(h:Value.okWide P W r base t v):∃ a n c,v=.slice a n c:=by
 unfold Value.okWide at h;rw[ht] at h;simp only at h;unfold Cell.okWide at h;rw[ht] at h;cases v<;>simp[Cell.ok,ht] at h ⊢
theorem r5 {t:TypeId}{fs:Array Field}(ht:P.underlying t=some (.struct fs)){W:World}{r:Reach}{base:Nat}{v:Value}(h:Value.okWide P W r base t v):∃ cs,v=.agg cs:=by
 unfold Value.okWide at h;rw[ht] at h;obtain⟨cs,h1,_⟩:=h;exact⟨cs,h1⟩
theorem CQ {t e:TypeId}(ht:P.underlying t=some (.slice e)){A:Type}{f:A->D}{ok:A->Prop}(hr:bV P t (λa=>[f a]) ok){H:Type}{enc:TypeId×Value->H}{W:World}{r:Reach}{base:Nat}{sp:Nat->Bool}{v:Value}{d:DataW H}{ps:List MemPlace}
  (hv:Value.okWide P W r base t v) (h:DataW.Trod enc P W 0 sp true t v d ps):∃ a,ok a∧V (all W) (f a) v:=by
 obtain⟨x,n,c,rfl⟩:=uG ht hv;obtain⟨fuel,h⟩:=h;obtain⟨a,h1,h2⟩:=hr H enc W sp fuel _ d ps h;obtain⟨y,ys,h3,h4,h5⟩:=h2.inv;have e:(Value.slice x n c).cells.toList=[Value.slice x n c]:=rfl;rw[e] at h3;injection h3 with h3 h6
 exact⟨a,h1,by rw[h3];exact h4⟩
theorem zM {t:TypeId}{fs:Array Field}(ht:P.underlying t=some (.struct fs)){A:Type}{f:A->List D}{ok:A->Prop}(hr:bV P t f ok){H:Type}{enc:TypeId×Value->H}{W:World}{r:Reach}{base:Nat}{sp:Nat->Bool}{v:Value}{d:DataW H}{ps:List MemPlace}
  (hv:Value.okWide P W r base t v) (h:DataW.Trod enc P W 0 sp true t v d ps):∃ a,ok a∧V (all W) (.agg (f a)) v:=by
 obtain⟨cs,rfl⟩:=r5 ht hv;obtain⟨fuel,h⟩:=h;obtain⟨a,h1,h2⟩:=hr H enc W sp fuel _ d ps h;exact⟨a,h1,by simp only[V];exact⟨cs.toList,by simp,h2⟩⟩
theorem Gz (w:World) (hI:GT.inv (all w)):Rel (all w) ⟨0,[]⟩:=⟨λ_ h=>h,λ_ _=>rfl,λid box hg=>by simp[aB.get,ac] at hg,λid id' box box' b o o' hg=>by simp[aB.get,ac] at hg,hI⟩
theorem xf {g:FuncId}{ds:List D}{b:Bool}(hp:Pu P g ds (boo b)){W:World}(hI:GT.inv (all W)){vs:List Value}(hv:VS (all W) ds vs):Calls P g vs.toArray W λe W'=>e=.returned (.bool b)∧RowKit.Below W.heap.size W W':=by
 refine((hp ⟨0,[]⟩).2 (all W) vs (Gz W hI) hv).mono ?_;rintro e w' ⟨v,c',rfl,rfl,k1,_,k3,_⟩;simp only[V] at k1;refine⟨by rw[k1.2],k3.os,k3.tape.tape,k3.output,k3.size,λk hk=>k3.frame k hk ?_⟩;rintro⟨id,box,o,hg,_⟩;simp[aB.get,ac] at hg
theorem zL {W W':World}(h:RowKit.Below W.heap.size W W') (may:MemPlace->Prop):W.keptBut W' may:=by
 refine⟨h.os,h.output,λi hi=>?_⟩;rw[h.block i hi];split<;>simp_all
end
end Go.Am
/-
 The abstract machine,part 37: calls that borrow boxes;contracts at one heap out of closed runs.
-/
namespace Go.Am
variable [GT]
theorem AC1.borrow {P:Program}{g:FuncId}{ds ds':List D}{h:aB}{x:Value}(hr:Rds h (λ_=>true) (λ_=>none) ds ds') (hp:Pu P g ds' (.v x)):AC1 P g ds h (.v x) h:=by
 obtain⟨hent,hcall⟩:=hp ⟨0,[]⟩;refine⟨hent,λc vs R hvs=>?_⟩
 let c0:Ctx:={ c.frozen h with φ:=λ_=>none }
 have hT:ri c h (λ_=>true) (λ_=>none) c0:=⟨R,rfl,λb hb=>.inl hb,λid b o box _ h2 h3=>.inr ⟨id,box,o,h2,h3⟩,λ_ _ hx=>by cases hx⟩
 have R0:Rel c0 ⟨0,[]⟩:=⟨λb hb=>by
  rcases hb with hb|⟨id,box,o,hg,hφ⟩
  ·exact R.size b hb
  ·obtain⟨b',o',p1,_,p3⟩:=R.live id box hg;rw[p1] at hφ;injection hφ with hφ;injection hφ with e1 _;subst e1
   exact p3.lt,λ_ _=>rfl,λid box hg=>by simp[aB.get,ac] at hg,λid id' box box' b o o' hg=>by simp[aB.get,ac] at hg,GT.keep (c:=c) (λ_ h=>.inl h) (λ_ _=>rfl) R.inv⟩
 refine(hcall c0 vs R0 (hr.sound hT vs hvs)).mono ?_;rintro e w' ⟨v,c1,rfl,rfl,v1,r1,g1,_⟩;have hno:∀ b,¬bG c0 ⟨0,[]⟩ b:=λb ⟨id,box,o,hg,_⟩=>by simp[aB.get,ac] at hg
 have hfr:∀ b,b<c.w.heap.size->c1.w.heap[b]?=c.w.heap[b]?:=λb hb=>g1.frame b hb (hno b)
 have hns:∀ b,bG c h b->¬c.S b:=λb ⟨id,box,o,hg,hφ⟩=>by
  obtain⟨b',o',p1,p2,_⟩:=R.live id box hg;rw[p1] at hφ;injection hφ with hφ;injection hφ with e1 _;subst e1
  exact p2
 let c':Ctx:={ S:=λb=>c1.S b∧¬bG c h b,φ:=c.φ,w:=c1.w }
 have K:am c c':=⟨λb hb=>⟨g1.keeps.S b (.inl hb),λho=>hns b ho hb⟩,λ_ _ hx=>hx,λb hb=>hfr b (R.size b hb),λb e z hz=>g1.keeps.shape b e z hz⟩;refine⟨v,c',rfl,rfl,by simpa only[V] using v1,⟨λb hb=>r1.size b hb.1,R.fresh,λid box hg=>?_,R.inj,GT.kept K R.inv⟩,⟨K,g1.os,g1.tape,g1.output,g1.size,kP _,λb hb _=>hfr b hb,λb ho=>.inr ho,λb hb=>?_⟩,λ_ _=>rfl⟩
 ·obtain⟨b,o,p1,p2,p3⟩:=R.live id box hg;exact⟨b,o,p1,λhs=>hs.2 ⟨id,box,o,hg,p1⟩,p3.keep K (hfr b p3.lt)⟩
 ·rcases g1.stable b hb.1 with hs|hs|hs
  ·rcases hs with hs|hs
   ·exact .inl hs
   ·exact absurd hs hb.2
  ·exact .inr (.inl hs)
  ·exact absurd hs (hno b)
theorem Cll.borrow {P:Program}{g:FuncId}{ds ds':List D}{h:aB}{K:D->aB->Prop}{x:Value}(hr:Rds h (λ_=>true) (λ_=>none) ds ds') (hp:Pu P g ds' (.v x)) (go:K (.v x) h):Cll P g ds h K:=⟨_,h,AC1.borrow hr hp,go⟩
theorem AC1.sub {P:Program}{g:FuncId}{ds:List D}{h h1 h2:aB}{d:D}(hp:AC1 P g ds h d h1) (hn:h2.next=h1.next) (hs:∀ id box,h2.get id=some box->h1.get id=some box):AC1 P g ds h d h2:=by
 refine⟨hp.1,λc vs R hvs=>(hp.2 c vs R hvs).mono ?_⟩;rintro e w' ⟨v,c',rfl,rfl,v1,r1,g1,p1⟩
 exact⟨v,c',rfl,rfl,v1,⟨r1.size,λid hid=>r1.fresh id om,λid box hg=>r1.live id box (hs id box hg),λi j bi bj b o o' x1 x2=>r1.inj i j bi bj b o o' (hs _ _ x1) (hs _ _ x2),r1.inv⟩,
  ⟨g1.keeps,g1.os,g1.tape,g1.output,g1.size,by rw[hn];exact g1.next,g1.frame,λb ⟨id,box,o,hg,hφ⟩=>g1.own b ⟨id,box,o,hs _ _ hg,hφ⟩,g1.stable⟩,p1⟩
def xI:List (D×D)->List (D×D)->Bool
 | [],[]=>true
 | (a,b)::l,(c,d)::m=>eqD a c&&eqD b d&&xI l m
 | _,_=>false
theorem uf:∀ {a b:List (D×D)},xI a b=true->a=b
 | [],[],_=>rfl
 | (a,b)::l,(c,d)::m,h=>by
  simp only[xI,kC] at h;rw[ko _ _ h.1.1,ko _ _ h.1.2,uf h.2]
 | [],_::_,h=>by simp[xI] at h
 | _::_,[],h=>by simp[xI] at h
def eqB:Box->Box->Bool
 | .cells a x,.cells b y=>oN a b&&x == y
 | .map a,.map b=>xI a b
 | _,_=>false
theorem eqB_eq:∀ {a b:Box},eqB a b=true->a=b
 | .cells a x,.cells b y,h=>by simp only[eqB,kC,beq_iff_eq] at h;rw[gE _ _ h.1,h.2]
 | .map a,.map b,h=>by have e:=uf (show xI a b=true from h);rw[e]
 | .cells _ _,.map _,h=>by simp[eqB] at h
 | .cells _ _,.loop ..,h=>by simp[eqB] at h
 | .cells _ _,.dfr,h=>by simp[eqB] at h
 | .cells _ _,.iter ..,h=>by simp[eqB] at h
 | .map _,.cells _ _,h=>by simp[eqB] at h
 | .map _,.loop ..,h=>by simp[eqB] at h
 | .map _,.dfr,h=>by simp[eqB] at h
 | .map _,.iter ..,h=>by simp[eqB] at h
 | .loop ..,_,h=>by simp[eqB] at h
 | .dfr,_,h=>by simp[eqB] at h
 | .iter ..,_,h=>by simp[eqB] at h
end Go.Am
/-
 The abstract machine,part 38: contracts at one heap out of symbolic runs;rounds of loops over functions.
-/
namespace Go.Am
variable [GT]
theorem AC1.of_vn {P:Program}{ti:TI}(hm:P.follows .mixedOrders=true) (T:TOk P ti){g:FuncId}{fn:Func}{code:Code}{ds:List D}{h h':aB}{d:D}(hg:P.funcs[g]?=some fn) (hb:fn.body=some code) (hn:(fn.name == "runtime.NumGoroutine")=false)
  (H:gR P ti h.next code (λe s'=>(e=.normal∨e=.ret)∧gu ti fn s'=some d∧s'.h=h') ⟨ds++List.replicate (fn.ntmps-ds.length) aM,h⟩):AC1 P g ds h d h':=by
 refine⟨by unfold dK;rw[hg];simp[hb,hn],λc vs R hvs=>?_⟩;refine(callsIn_wide (n:=0)).1 (callsIn_of_wp hg hb trivial ?_)
 have hfit:Fit c ⟨ds++List.replicate (fn.ntmps-ds.length) aM,h⟩ { tmps:=vs.toArray++Array.replicate (fn.ntmps-vs.toArray.size) undef,defers:=[] }:=by
  refine⟨R,?_⟩;simp only[Array.toList_append,Array.toList_replicate,List.size_toArray];rw[hvs.length];exact hvs.append (VS.replicate V.undef _)
 refine(bK hm T code _ _ H).run c h c _ _ ⟨rfl,λid hid=>R.fresh id hid,aZ.refl _ _,λ_ _=>rfl⟩ hfit λe s' c1 a' hq f1 b1 d1=>?_
 obtain⟨he,hr,hh⟩:=hq;subst hh;obtain⟨v,e1,v1⟩:=dN (P:=P) T f1 hr;rcases he with rfl|rfl
 ·exact⟨d1,v,e1,v,c1,rfl,rfl,v1,f1.rel,b1.grow,b1.φ⟩
 ·exact⟨d1,v,e1,v,c1,rfl,rfl,v1,f1.rel,b1.grow,b1.φ⟩
def SvR (P:Program) (code:Code) (K:List D->aB->Prop) (s:St):Prop:=
 ∀ (ro:Option Nat) (n:Nat) (c:Ctx) (a:Act) (R:Exit->Act->World->Prop),Fit c s a ->
  (∀ tm' h' c' a',K tm' h'->Fit c' ⟨tm',h'⟩ a'->aZ c s.h c' h'->(∀ j,j<s.h.next->c'.φ j=c.φ j)->a'.defers=a.defers->R .normal a' c'.w)->code.wpIn (WF ro) n P R a c.w
theorem SvR.skip {P:Program}{K:List D->aB->Prop}{s:St}(h:K s.tmps s.h):SvR P .skip K s:=λ_ _ c a _ hf hR=>wpIn_skip (hR s.tmps s.h c a h hf (aZ.refl _ _) (λ_ _=>rfl) rfl)
theorem SvR.region {P:Program}{ti:TI}(T:TOk P ti){id:Nat}{ops:Array Oper}{K:List D->aB->Prop}{s:St}(h:DY P ti ops ops.toList s.tmps s.h K):SvR P (.region id ops false) K s:=λ_ _ c a _ hf hR=>wpIn_region_list (pS T ops _ _ _ _ c a _ h hf hR)
theorem SvR.block {P:Program}{id:Nat}{code:Code}{K:List D->aB->Prop}{s:St}(h:SvR P code K s):SvR P (.block id code) K s:=λro n c a _ hf hR=>wpIn_block (h ro n c a _ hf hR)
theorem Y1.of_sv {P:Program}{id:Nat}{ds:List D}{h h':aB}{tm:List D}{ps:List Tmp}{assign body:Code}
  (hg:h.get id=some (.loop .ready none tm ps assign body)) (hlen:ds.length=ps.length)
  (H:SvR P assign (λtm1 h1=>h1.get id=some (.loop .ready none tm ps assign body)∧SvR P body (λ_ h2=>h2.get id=some (.loop .busy none tm ps assign body)∧h2.set id (.loop .ready none tm ps assign body)=h') ⟨tm1,h1.set id (.loop .busy none tm ps assign body)⟩) ⟨fc ps ds tm,h⟩) :
  Y1 P id ds h (.v (.bool true)) h':=by
 intro c vs b R hvs hφ;have hid:id<h.next:=Nat.lt_of_not_le λhle=>by rw[R.fresh id hle] at hφ;cases hφ
 obtain⟨b0,o0,q1,_,q3⟩:=R.live _ _ hg;rw[hφ] at q1;injection q1 with q1;injection q1 with e1 e2;subst e1;subst e2
 obtain⟨_,L,l1,l2,l3,l4,l5,l6,l7⟩:=q3
 have hsz:vs.toArray.size=L.params.size:=by
  have a1:=hvs.length;have a2:L.params.toList.length=ps.length:=by rw[l5]
  simp at a2 ⊢;omega
 refine⟨_,_,_,_,run_yield l1 hsz,λro n=>roundIn_of_wpIn trivial ?_⟩;rw[vC,l5,l6,l7];have hfit:Fit c ⟨fc ps ds tm,h⟩ { tmps:=(ps.zip vs).foldl (λ(t:Array Value) p=>t.setIfInBounds p.1 p.2) L.tmps,defers:=[] }:=⟨R,j7 ps ds vs tm L.tmps hvs l4⟩;refine H (some b) n c _ _ hfit λtm1 h1 c1 a1 hk f1 g1 p1 d1=>?_
 obtain⟨hg1,H2⟩:=hk;have e1:c1.φ id=some (b,0):=by rw[p1 id hid];exact hφ
 obtain⟨b1,o1,r1,_,r3⟩:=f1.rel.live _ _ hg1;rw[e1] at r1;injection r1 with r1;injection r1 with x1 x2;subst x1;subst x2
 obtain⟨_,L1,m1,m2,m3,m4,m5⟩:=r3;obtain⟨R2,G2⟩:=jx f1.rel (box':=.loop .busy none tm ps assign body) (o':=.loop { L1 with state:=.busy }) hg1 e1 (gQ m1) λK hb=>⟨rfl,_,hb,rfl,m3,VS.keep K _ _ m4,m5⟩
 refine⟨_,run_beginRound m1 m2,?_⟩;refine H2 (some b) n { c1 with w:=c1.w.putObj b (.loop { L1 with state:=.busy }) } a1 _ ⟨R2,VS.keep G2.keeps _ _ f1.tmps⟩ λtm3 h3 c3 a3 hk3 f3 g3 p3 d3=>?_
 obtain⟨hg2,rfl⟩:=hk3
 have hid1:id<(h1.set id (.loop .busy none tm ps assign body)).next:=by
  have:=g1.next
  show id<h1.next;exact Nat.lt_of_lt_of_le hid this
 have e3:c3.φ id=some (b,0):=by rw[p3 id hid1];exact e1
 obtain⟨b3,o3,t1,_,t3⟩:=f3.rel.live _ _ hg2;rw[e3] at t1;injection t1 with t1;injection t1 with x1 x2;subst x1;subst x2
 obtain⟨_,L3,n1,n2,n3,n4,n5⟩:=t3;obtain⟨R4,G4⟩:=jx f3.rel (box':=.loop .ready none tm ps assign body) (o':=.loop { L3 with state:=if(none:Option Code).isNone then .ready else .done,pending:=none }) hg2 e3 (gQ n1) λK hb=>⟨rfl,_,hb,rfl,rfl,VS.keep K _ _ n4,n5⟩
 refine⟨_,_,run_endRound none n1,?_⟩;refine⟨_,_,rfl,rfl,by simp[V,c7],R4,((g1.trans G2).trans g3).trans G4,λj hj=>?_⟩;show c3.φ j=c.φ j;have hj1:j<(h1.set id (.loop .busy none tm ps assign body)).next:=Nat.lt_of_lt_of_le hj g1.next;rw[p3 j hj1];exact p1 j hj
end Go.Am
/-
 The abstract machine,part 39: calls that are given boxes for good;functions with a loop over a function.
-/
namespace Go.Am
variable [GT]
theorem AC1.give {P:Program}{g:FuncId}{ds ds':List D}{h:aB}{d:D}(hr:Rds h (λ_=>true) (λ_=>none) ds ds') (hp:Pu P g ds' d):AC1 P g ds h d ⟨h.next,[]⟩:=by
 obtain⟨hent,hcall⟩:=hp ⟨0,[]⟩;refine⟨hent,λc vs R hvs=>?_⟩
 let c0:Ctx:={ c.frozen h with φ:=λ_=>none }
 have hT:ri c h (λ_=>true) (λ_=>none) c0:=⟨R,rfl,λb hb=>.inl hb,λid b o box _ h2 h3=>.inr ⟨id,box,o,h2,h3⟩,λ_ _ hx=>by cases hx⟩
 have R0:Rel c0 ⟨0,[]⟩:=⟨λb hb=>by
  rcases hb with hb|⟨id,box,o,hg,hφ⟩
  ·exact R.size b hb
  ·obtain⟨b',o',p1,_,p3⟩:=R.live id box hg;rw[p1] at hφ;injection hφ with hφ;injection hφ with e1 _;subst e1
   exact p3.lt,λ_ _=>rfl,λid box hg=>by simp[aB.get,ac] at hg,λid id' box box' b o o' hg=>by simp[aB.get,ac] at hg,GT.keep (c:=c) (λ_ h=>.inl h) (λ_ _=>rfl) R.inv⟩
 refine(hcall c0 vs R0 (hr.sound hT vs hvs)).mono ?_;rintro e w' ⟨v,c1,rfl,rfl,v1,r1,g1,_⟩;have hno:∀ b,¬bG c0 ⟨0,[]⟩ b:=λb ⟨id,box,o,hg,_⟩=>by simp[aB.get,ac] at hg
 have hfr:∀ b,b<c.w.heap.size->c1.w.heap[b]?=c.w.heap[b]?:=λb hb=>g1.frame b hb (hno b)
 let c':Ctx:={ S:=c1.S,φ:=c.φ,w:=c1.w }
 have K1:am c1 c':=⟨λ_ h=>h,λid x hx=>(by rw[r1.fresh id (Nat.zero_le _)] at hx;cases hx),λ_ _=>rfl,λ_ _ _ h=>h⟩;have K:am c c':=⟨λb hb=>g1.keeps.S b (.inl hb),λ_ _ hx=>hx,λb hb=>hfr b (R.size b hb),λb e z hz=>g1.keeps.shape b e z hz⟩;refine⟨v,c',rfl,rfl,V.keep K1 _ _ v1,⟨r1.size,R.fresh,λid box hg=>by simp[aB.get,ac] at hg,λi j bi bj b o o' hg=>(by simp[aB.get,ac] at hg),GT.kept K R.inv⟩,⟨K,g1.os,g1.tape,g1.output,g1.size,kP _,λb hb _=>hfr b hb,λb ⟨id,box,o,hg,_⟩=>by simp[aB.get,ac] at hg,λb hb=>?_⟩,λ_ _=>rfl⟩;rcases g1.stable b hb with(hs|hs)|hs|hs
 ·exact .inl hs
 ·exact .inr (.inr hs)
 ·exact .inr (.inl hs)
 ·exact absurd hs (hno b)
theorem Cll.give {P:Program}{g:FuncId}{ds ds':List D}{h:aB}{K:D->aB->Prop}{d:D}(hr:Rds h (λ_=>true) (λ_=>none) ds ds') (hp:Pu P g ds' d) (go:K d ⟨h.next,[]⟩):Cll P g ds h K:=⟨d,_,AC1.give hr hp,go⟩
def wpL (F:Fence) (n:Nat) (P:Program) (Q:Exit->Act->World->Prop):List Code->Act->World->Prop
 | [],a,w=>Q .normal a w
 | c::cs,a,w=>c.wpIn F n P (Exit.then (wpL F n P Q cs) Q) a w
theorem iQ {F:Fence}{n:Nat}{P:Program}{c:Code}{Q Q':Exit->Act->World->Prop}{a:Act}{w:World}(h:c.wpIn F n P Q a w) (hq:∀ e a w,Q e a w->Q' e a w):c.wpIn F n P Q' a w:=λb k cs h1 h2 h3=>by
 obtain⟨e,a',w',q,r⟩:=h b k cs h1 h2 h3;exact⟨e,a',w',hq _ _ _ q,r⟩
theorem Ay {F:Fence}{n:Nat}{P:Program}{Q:Exit->Act->World->Prop}{x y:Code}{cs:List Code}{a:Act}{w:World}(h:wpL F n P Q (x::y::cs) a w):wpL F n P Q (.seq x y::cs) a w:=
 wpIn_seq (iQ h λe a w hq=>by cases e<;>exact hq)
def RunL (P:Program) (ti:TI) (nb:Nat) (cs:List Code):(Exit->St->Prop)->St->Prop:=
 List.rec (motive:=λ_=>(Exit->St->Prop)->St->Prop) (λQ s=>Q .normal s) (λc _ ih Q s=>gR P ti nb c (jb (ih Q) Q) s) cs
theorem rm {P:Program}{ti:TI}(hm:P.follows .mixedOrders=true) (T:TOk P ti){nb:Nat}:∀ (cs:List Code) (Q:Exit->St->Prop) (s:St),RunL P ti nb cs Q s->∀ (cb:Ctx) (hb:aB) (c:Ctx) (a:Act) (R:Exit->Act->World->Prop),Base nb cb hb c s.h->Fit c s a ->
  (∀ e s' c' a',Q e s'->Fit c' s' a'->Base nb cb hb c' s'.h->a'.defers=a.defers->R e a' c'.w)->wpL (WF none) 0 P R cs a c.w
 | [],Q,s,h,cb,hb,c,a,R,hB,hf,hR=>hR _ s c a h hf hB rfl
 | x::cs,Q,s,h,cb,hb,c,a,R,hB,hf,hR=>by
  refine(bK hm T x _ _ (show gR P ti nb x (jb (RunL P ti nb cs Q) Q) s from h)).run cb hb c a _ hB hf λe s1 c1 a1 hq f1 b1 d1=>?_
  cases e with
  | normal=>exact rm hm T cs Q s1 hq cb hb c1 a1 R b1 f1 λe s2 c2 a2 q2 f2 b2 d2=>hR e s2 c2 a2 q2 f2 b2 (d2.trans d1)
  | _=>exact hR _ s1 c1 a1 hq f1 b1 d1
structure Fw (P:Program) (ti:TI) (fn:Func) (d:aB->D->Prop) (code:List Code) (s:St):Prop where
 run:∀ (cb c:Ctx) (a:Act) (R:Ending->World->Prop),Base 0 cb ⟨0,[]⟩ c s.h->Fit c s a->a.defers=[] ->
  (∀ v d0 c1 h1,V c1 d0 v->Rel c1 h1->aZ cb ⟨0,[]⟩ c1 h1->d h1 d0->R (.returned v) c1.w) ->
  wpL (WF none) 0 P (bodyPostM (WF none) 0 P fn R) code a c.w
structure E9 (ti:TI) (fn:Func) (d:aB->D->Prop) (id:Nat) (s:St):Prop where
 dfr:s.h.get id=some .dfr
 ex:∃ d0,gu ti fn ⟨s.tmps,s.h.del id⟩=some d0∧d (s.h.del id) d0
def lastQ (ti:TI) (fn:Func) (d:aB->D->Prop) (id:Nat):Exit->St->Prop
 | .normal,s=>E9 ti fn d id s
 | .ret,s=>E9 ti fn d id s
 | _,_=>False
section
variable {P:Program}{ti:TI}{fn:Func}{d:aB->D->Prop}
theorem Fw.split {x y:Code}{cs:List Code}{s:St}(h:Fw P ti fn d (x::y::cs) s):Fw P ti fn d (.seq x y::cs) s:=⟨λcb c a R hB hf hd hR=>Ay (h.run cb c a R hB hf hd hR)⟩
theorem Fw.weak {code:List Code}{s s':St}(hl:Lf 0 s s') (h:Fw P ti fn d code s'):Fw P ti fn d code s:=⟨λcb c a R hB hf hd hR=>by
 obtain⟨c0,hw,hf0,hb0⟩:=hl.le cb _ c a hB hf;rw[<-hw]
 exact h.run cb c0 a R hb0 hf0 hd hR⟩
theorem Fw.one (hm:P.follows .mixedOrders=true) (T:TOk P ti){x:Code}{cs:List Code}{s:St}(h:gR P ti 0 x (jb (Fw P ti fn d cs) (λ_ _=>False)) s):Fw P ti fn d (x::cs) s:=⟨λcb c a R hB hf hd hR=>by
 refine(bK hm T x _ _ h).run cb ⟨0,[]⟩ c a _ hB hf λe s1 c1 a1 hq f1 b1 d1=>?_
 cases e with
 | normal=>exact hq.run cb c1 a1 R b1 f1 (d1.trans hd) hR
 | _=>exact hq.elim⟩
theorem Fw.range (hm:P.follows .mixedOrders=true) (T:TOk P ti){b:Nat}{g:Operand}{ps:Array Tmp}{assign body:Code}{post:List Code}{s:St}{gf:FuncId}{first cap:List D}{d1:D}{h1:aB}{st:LoopState}{pend:Option Code}{tm:List D}{ps':List Tmp}{a' b':Code}
  (hg:ev s.tmps g=some (.fn (.func gf) first cap)) (hc:AC1 P gf (first++[.yf (s.h.next+1)]++cap) (du s ps assign body) d1 h1) (hl:h1.get (s.h.next+1)=some (.loop st pend tm ps' a' b')) (hst:st≠.busy)
  (hp:RunL P ti h1.next post (lastQ ti fn d s.h.next) ⟨s.tmps,h1.del (s.h.next+1)⟩) (hpe:pend=none∨pend=some (.exit b):=by first|exact .inl rfl|exact .inr rfl):Fw P ti fn d (.block b (.rangeFunc g ps assign body)::post) s:=⟨λcb c a R hB hf hd hR=>by
 have C:gm P (λk ds' h0=>open Classical in if k=.fn gf∧ds'=first++[.yf (s.h.next+1)]++cap∧h0=du s ps assign body then some (d1,h1) else none):=λk ds' h0 d' h1' hx=>by
  simp only at hx;split at hx
  ·rename_i e;obtain⟨rfl,rfl,rfl⟩:=e;simp only[kA,kB] at hx;obtain⟨rfl,rfl⟩:=hx;exact hc
  ·simp at hx
 refine wpIn_block (ib C (pend:=pend) (d:=d1) (h1:=h1) hf hg si hl hst λc1 dm f1 g1 p1 dr1=>?_)
 suffices h:wpL (WF none) 0 P (bodyPostM (WF none) 0 P fn R) post { a with defers:=dm::a.defers } c1.w by
  rcases hpe with rfl|rfl
  ·exact h
  ·exact wpIn_exit (by simp only[Exit.inBlock,if_true];exact h)
 refine rm hm T post _ _ hp c1 (h1.del (s.h.next+1)) c1 _ _ ⟨rfl,λid hid=>f1.rel.fresh id hid,aZ.refl _ _,λ_ _=>rfl⟩ f1 λe s' c2 a2 hq f2 b2 d2=>?_
 have key:E9 ti fn d s.h.next s'->LeavesInM (WF none) 0 P fn a2.tmps R a2.defers .returning c2.w:=λhq=>by
  obtain⟨d0,hr,hret⟩:=hq.ex;obtain⟨bb,hφ,rfl⟩:=dr1;have hid:s.h.next<h1.next:=Nat.lt_of_not_le λhle=>by rw[f1.rel.fresh _ hle] at hφ;cases hφ
  rw[d2,show({ a with defers:=⟨.collected bb,#[]⟩::a.defers }:Act).defers=[⟨.collected bb,#[]⟩] by rw[hd]];refine iC (dl:=λ_ _ _=>none) (λ_ _ _ _ hx=>by cases hx) [.mark s.h.next] [⟨.collected bb,#[]⟩] c2 s'.h (s'.h.del s.h.next) (by simp only[ej,hq.dfr]) f2.rel ⟨_,_,rfl,⟨bb,by rw[b2.φ _ hid];exact hφ,rfl⟩,rfl⟩ λc3 r3 g3 p3=>?_
  obtain⟨v,e1,v1⟩:=dN (P:=P) T (a:=a2) (⟨r3,VS.keep g3.keeps _ _ f2.tmps⟩:Fit c3 ⟨s'.tmps,s'.h.del s.h.next⟩ a2) hr;exact⟨v,e1,hR v d0 c3 _ v1 r3 (hB.grow.trans (g1.trans (b2.grow.trans g3))) hret⟩
 cases e with
 | normal=>exact key hq
 | ret=>exact key hq
 | _=>exact hq.elim⟩
theorem Pu.of_fw {g:FuncId}{code:Code}{ds:List D}{d:D}(hg:P.funcs[g]?=some fn) (hb:fn.body=some code) (hn:(fn.name == "runtime.NumGoroutine")=false) (hd:aK ds=true)
  (h:Fw P ti fn (λh d0=>aE h d0 d) [code] ⟨ds++List.replicate (fn.ntmps-ds.length) aM,⟨0,[]⟩⟩):Pu P g ds d:=by
 intro h0;refine⟨by unfold dK;rw[hg];simp[hb,hn],λc vs R hvs=>?_⟩;refine(callsIn_wide (n:=0)).1 (callsIn_of_wp_marks hg hb trivial ?_);have R0:Rel { c with φ:=λ_=>none } ⟨0,[]⟩:=⟨R.size,λ_ _=>rfl,λid box hg=>by simp[aB.get,ac] at hg,λid id' box box' b o o' hg=>by simp[aB.get,ac] at hg,GT.keep (c:=c) (λ_ h=>h) (λ_ _=>rfl) R.inv⟩;have hvs0:VS { c with φ:=λ_=>none } ds vs:=VS.move (c:=c) (c':={ c with φ:=λ_=>none }) (λb hb=>⟨hb,rfl⟩) ds vs hd hvs
 have hfit:Fit { c with φ:=λ_=>none } ⟨ds++List.replicate (fn.ntmps-ds.length) aM,⟨0,[]⟩⟩ { tmps:=vs.toArray++Array.replicate (fn.ntmps-vs.toArray.size) undef,defers:=[] }:=by
  refine⟨R0,?_⟩;simp only[Array.toList_append,Array.toList_replicate,List.size_toArray];rw[hvs.length];exact hvs0.append (VS.replicate V.undef _)
 refine iQ (h.run { c with φ:=λ_=>none } { c with φ:=λ_=>none } _ _ ⟨rfl,λ_ _=>rfl,aZ.refl _ _,λ_ _=>rfl⟩ hfit rfl λv d0 c1 h1 v1 r1 g1 hr=>?_) λe a w hq=>by cases e<;>exact hq
 obtain⟨c',k1,k2,k3,k4,k5⟩:=uA R r1 g1 hr v1;exact⟨v,c',rfl,k1,k2,k3,k4,k5⟩
theorem AC1.of_fw {g:FuncId}{code:Code}{ds:List D}{d:D}{h':aB}(hg:P.funcs[g]?=some fn) (hb:fn.body=some code) (hn:(fn.name == "runtime.NumGoroutine")=false)
  (h:Fw P ti fn (λh d0=>Lf 0 ⟨[d0],h⟩ ⟨tmp 1 [(0,d)],h'⟩) [code] ⟨ds++List.replicate (fn.ntmps-ds.length) aM,⟨0,[]⟩⟩):AC1 P g ds ⟨0,[]⟩ d h':=by
 refine⟨by unfold dK;rw[hg];simp[hb,hn],λc vs R hvs=>?_⟩;refine(callsIn_wide (n:=0)).1 (callsIn_of_wp_marks hg hb trivial ?_)
 have hfit:Fit c ⟨ds++List.replicate (fn.ntmps-ds.length) aM,⟨0,[]⟩⟩ { tmps:=vs.toArray++Array.replicate (fn.ntmps-vs.toArray.size) undef,defers:=[] }:=by
  refine⟨R,?_⟩;simp only[Array.toList_append,Array.toList_replicate,List.size_toArray];rw[hvs.length];exact hvs.append (VS.replicate V.undef _)
 refine iQ (h.run c c _ _ ⟨rfl,λid hid=>R.fresh id hid,aZ.refl _ _,λ_ _=>rfl⟩ hfit rfl λv d0 c1 h1 v1 r1 g1 hl=>?_) λe a w hq=>by cases e<;>exact hq
 obtain⟨c0,w0,f0,b0⟩:=hl.le c ⟨0,[]⟩ c1 { tmps:=#[v],defers:=[] } ⟨rfl,λid hid=>R.fresh id hid,g1,λj hj=>absurd hj (Nat.not_lt_zero _)⟩ ⟨r1,VS.cons v1 VS.nil⟩
 have v0:V c0 d v:=by
  have:=f0.tmps
  obtain⟨y,ys,e2,h2,_⟩:=VS.inv (show VS c0 (d::[]) [v] from this);injection e2 with e2;subst e2;exact h2
 exact⟨v,c0,rfl,w0,v0,f0.rel,b0.grow,b0.φ⟩
end
theorem AC1.of_vl {P:Program}{ti:TI}(hm:P.follows .mixedOrders=true) (T:TOk P ti){g:FuncId}{fn:Func}{code:Code}{ds:List D}{n:Nat}{bs:List (Nat×Box)}{h':aB}{d:D}(hg:P.funcs[g]?=some fn) (hb:fn.body=some code) (hn:(fn.name == "runtime.NumGoroutine")=false)
  (H:gR P ti n code (λe s'=>(e=.normal∨e=.ret)∧gu ti fn s'=some d∧s'.h=h') ⟨ds++List.replicate (fn.ntmps-ds.length) aM,⟨n,bs⟩⟩):AC1 P g ds ⟨n,bs⟩ d h':=AC1.of_vn hm T hg hb hn H
theorem Yll.sv {P:Program}{id:Nat}{ds:List D}{h h':aB}{tm:List D}{ps:List Tmp}{assign body:Code}{K:D->aB->Prop}
  (hg:h.get id=some (.loop .ready none tm ps assign body)) (hlen:ds.length=ps.length)
  (H:SvR P assign (λtm1 h1=>h1.get id=some (.loop .ready none tm ps assign body)∧SvR P body (λ_ h2=>h2.get id=some (.loop .busy none tm ps assign body)∧h2.set id (.loop .ready none tm ps assign body)=h') ⟨tm1,h1.set id (.loop .busy none tm ps assign body)⟩) ⟨fc ps ds tm,h⟩)
  (go:K (.v (.bool true)) h'):Yll P id ds h K:=⟨_,_,Y1.of_sv hg hlen H,go⟩
def Bq:Code->Bool
 | .rangeFunc ..=>true
 | .block _ c=>Bq c
 | .scope c=>Bq c
 | .seq x y=>Bq x || Bq y
 | _=>false
def rfA:Code->Code
 | .rangeFunc _ _ a _=>a
 | .block _ c=>rfA c
 | .scope c=>rfA c
 | .seq x y=>if Bq x then rfA x else rfA y
 | _=>.skip
def rfB:Code->Code
 | .rangeFunc _ _ _ b=>b
 | .block _ c=>rfB c
 | .scope c=>rfB c
 | .seq x y=>if Bq x then rfB x else rfB y
 | _=>.skip
def fnA (f:Func):Code:=match f.body with|some c=>rfA c|none=>.skip
def fnB (f:Func):Code:=match f.body with|some c=>rfB c|none=>.skip
end Go.Am
