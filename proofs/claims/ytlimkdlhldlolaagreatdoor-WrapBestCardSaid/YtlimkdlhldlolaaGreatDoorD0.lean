/-
  What is known of package-level variables; strings.Contains at short words.
-/
import Derived.Test.YtlimkdlhldlolaaGreatDoorC11
set_option linter.unusedSectionVars false
namespace Go.Proofs.YtlimkdlhldlolaaGreatDoor
set_option maxRecDepth 1000000
section
open Go Go.Am Classical
def fr:List Nat:=(List.range 256).map λi=>if i=9\/i=10\/i=11\/i=12\/i=13\/i=32 then 1 else 0
def AU:List D:=fr.map λk:Nat=>.v (.int .u8 (k:Int))
def vr:List Value:=fr.map λk:Nat=>.int .u8 (k:Int)
abbrev gA:Nat:=0
abbrev gM:Nat:=2
def Cv (m:Int) (c:Ctx):Prop:=c.S gA/\Holds c.w gA 0 vr/\c.S gM/\Holds c.w gM 0 [.int .i64 m]
theorem tj {m:Int}{c c':Ctx}(h1:∀ b,c.S b->c'.S b) (h2:∀ b,c.S b->c'.w.heap[b]?=c.w.heap[b]?) (h:Cv m c):Cv m c':=
 ⟨h1 _ h.1,h.2.1.keep (h2 _ h.1),h1 _ h.2.2.1,h.2.2.2.keep (h2 _ h.2.2.1)⟩
theorem yv {c:Ctx}:∀ l:List Nat,VS c (l.map λk:Nat=>D.v (.int .u8 (k:Int))) (l.map λk:Nat=>Value.int .u8 (k:Int))
 | []=>VS.nil
 | k::l=>VS.cons (by simp[V,co]) (yv l)
theorem rE {m:Int}{c:Ctx}(h:Cv m c):V c (.iptr AU) (.pointer (some ⟨gA,0,none⟩))/\V c (.iptr [i64 m]) (.pointer (some ⟨gM,0,none⟩)):=by
 refine⟨?_,?_⟩
 .simp only[V];exact⟨gA,0,vr,rfl,yv _,.inr ⟨h.1,h.2.1⟩⟩
 .simp only[V];exact⟨gM,0,[.int .i64 m],rfl,VS.cons (by simp[V,co]) VS.nil,.inr ⟨h.2.2.1,h.2.2.2⟩⟩
@[reducible] def gtM (m:Int):GT where
 inv:=Cv m
 keep:=tj
 tab g:=if g=gA then some AU else if g=gM then some [i64 m] else none
 tabOk {c g cs} h e:=by
  split at e
  .rename_i hg;subst hg;injection e with e;subst e;exact(rE h).1
  .split at e
   .rename_i hg;subst hg;injection e with e;subst e;exact(rE h).2
   .cases e
@[reducible] def gtR:GT where
 inv c:=∃ m,Cv m c
 keep h1 h2 h:=let⟨m,h⟩:=h;⟨m,tj h1 h2 h⟩
 tab g:=if g=gA then some AU else none
 tabOk {c g cs} h e:=by
  obtain⟨m,h⟩:=h;split at e
  .rename_i hg;subst hg;injection e with e;subst e;exact(rE h).1
  .cases e
theorem Pu.any {g:FuncId}{ds:List D}{d:D}(h:∀ m,@Pu (gtM m) Tryz.prog g ds d):@Pu gtR Tryz.prog g ds d:=Pu.cases (0:Int) (A:=gtM) (λ_ h=>h) h
abbrev oS:Str:=[32,9,13]
theorem mg.none {inst:GT}:@mg inst Tryz.prog (λ_ _=>none):=λ_ _ _ h=>by cases h
theorem GQ {inst:GT}{w:Nat}(hw:w=67\/w=76):@Pu inst Tryz.prog 259 [.str [9],.v (.int .u8 (w:Int))] (i64 (-1)):=by
 rcases hw with rfl|rfl
 .exact Pu.of_x (sp:=λ_ _=>none) aB T0 mg.none (f:=5) rfl (by kernel_rfl)
 .exact Pu.of_x (sp:=λ_ _=>none) aB T0 mg.none (f:=5) rfl (by kernel_rfl)
theorem ixs_w {k:Nat}{s:Str}(hs:s=[67,82]\/s=[76,70]\/s=[76,86]){h:aA}:@Dj (gtM (Int.ofNat (k+2))) Tryz.prog 260 [.str oS,.str s] h (i64 (-1)):=by
 letI:=gtM (Int.ofNat (k+2));intro c vs R hvs;obtain⟨y1,ys,rfl,v1,hvs⟩:=hvs.inv;obtain⟨y2,ys,rfl,v2,hvs⟩:=hvs.inv;simp only[VS] at hvs;subst hvs;simp only[V] at v1 v2;subst v1 v2;have hcell:c.w.cell? ⟨gM,0,none⟩=some (.int .i64 (Int.ofNat (k+2))):=(show Cv _ c from R.inv).2.2.2 0 si;refine⟨.int .i64 (-1),lE hcell _ ?_,by simp[V,co]⟩;rcases hs with rfl|rfl|rfl
 .kernel_rfl
 .kernel_rfl
 .kernel_rfl
theorem ixs_m (m:Int){s:Str}(hs:s=[67,82]\/s=[76,70]\/s=[76,86]) (hm:((2:Nat):Int)<=m){h:aA}:@Dj (gtM m) Tryz.prog 260 [.str oS,.str s] h (i64 (-1)):=by
 obtain⟨k,rfl⟩:∃ k:Nat,m=Int.ofNat (k+2):=⟨(m-2).toNat,by simp only[Int.ofNat_eq_natCast];omega⟩;exact ixs_w hs
set_option maxHeartbeats 4000000 in
theorem IU (m:Int){s:Str}(hs:s=[67,82]\/s=[76,70]\/s=[76,86]):@Pu (gtM m) Tryz.prog 241 [.str oS,.str s] (i64 (-1)):=by
 letI:=gtM m;rcases hs with rfl|rfl|rfl
 all_goals
  refine pv Tryz.func241 ?_;repeat' ((conv=>whnf);first|refine Aa.mk (by decide) (by decide) ?_|refine Br.mk (λ_=>?_) (λhb=>absurd (by decide) hb)|refine Br.mk (λhb=>absurd hb (by decide)) (λ_=>?_)|refine bX.goX aB T0 ?_|exact kQ|(refine bk ?_ ?_<;>intro _<;>try exact exo)|refine stq ?_|refine sc.ext (ixs_m m (by first|exact .inl rfl|exact .inr (.inl rfl)|exact .inr (.inr rfl)) asm) ?_|refine sc.pu (GQ (.inl rfl)) ?_|refine sc.pu (GQ (.inr rfl)) ?_|refine aG.times aB T0 1 ?_|refine Chk.mk (ko (by decide) (by decide)) ?_|refine Chk.mk (by decide) ?_|fail)
  all_goals(conv=>whnf)
  all_goals first|exact aD.same rfl rfl|(exfalso;simp_all [oS];done)
theorem AF {s:Str}(hs:s=[67,82]\/s=[76,70]\/s=[76,86]):@Pu gtR Tryz.prog 213 [.str oS,.str s] (boo false):=by
 refine Pu.any λm=>?_
 letI:=gtM m;refine pv Tryz.func213 ?_;repeat' ((conv=>whnf);first|exact kQ|(refine bk ?_ ?_<;>intro _<;>try exact exo)|refine stq ?_|(apply Cll.inl aB T0 Tryz.func211 rfl rfl ?_;rotate_left)|exact⟨Or.inr rfl,rfl,rfl⟩|refine cp (IU m hs) ?_|fail)
 (conv=>whnf)
 exact aD.same rfl rfl
noncomputable def spC (g:FuncId) (ds:List D):Option D:=
 if Nat.beq g 213=true then
  match ds with
  | [.str a,.str b]=>if jI a oS=true then(if(jI b [67,82] || jI b [76,70] || jI b [76,86])=true then some (boo false) else none) else none
  | _=>none
 else if Nat.beq g 201=true then
  match ds with
  | [.v (.int .u8 (.ofNat k))]=>some (boo (wbN k))
  | _=>none
 else if Nat.beq g 179=true then
  match ds with
  | [.str s]=>if Nat.ble s.length 1000=true then some (boo (qr s)) else none
  | _=>none
 else if Nat.beq g 210=true then
  match ds with
  | [.str s,.str [b]]=>some (i64 (Int.ofNat (GH s b.toNat)))
  | _=>none
 else if Nat.beq g 259=true then
  match ds with
  | [.str s,.v (.int .u8 (.ofNat k))]=>if Nat.blt k 256=true then some (i64 (GR s k 0)) else none
  | _=>none
 else none
theorem eZ:@mg gtR Tryz.prog spC:=λg ds d h=>by
 letI:=gtR;unfold spC at h;split at h
 .rename_i hg;obtain rfl:=Nat.eq_of_beq_eq_true hg;split at h
  .rename_i a b;split at h
   .rename_i ha;split at h
    .rename_i hb;injection h with h;subst h
     rw[cM.1 ha];simp only[kN] at hb;refine AF ?_;rcases hb with(hb|hb)|hb
     .exact .inl (cM.1 hb)
     .exact .inr (.inl (cM.1 hb))
     .exact .inr (.inr (cM.1 hb))
    .cases h
   .cases h
  .cases h
 split at h
 .rename_i hg;obtain rfl:=Nat.eq_of_beq_eq_true hg;split at h
  .rename_i k;injection h with h;subst h
   exact zE
  .cases h
 split at h
 .rename_i hg;obtain rfl:=Nat.eq_of_beq_eq_true hg;split at h
  .split at h
   .rename_i hl;injection h with h;subst h
    exact Fc (kD hl)
   .cases h
  .cases h
 split at h
 .rename_i hg;obtain rfl:=Nat.eq_of_beq_eq_true hg;split at h
  .injection h with h;subst h
   exact JH
  .cases h
 split at h
 .rename_i hg;obtain rfl:=Nat.eq_of_beq_eq_true hg;split at h
  .rename_i s k;split at h
   .rename_i hk;injection h with h;subst h
    have hk':k<256:=by simpa [Nat.blt_eq] using hk
    have e:(UInt8.ofNat k).toNat=k:=by simp;omega
    have:=yy (s:=s) (b:=UInt8.ofNat k)
    rw[e] at this;exact this
   .cases h
  .cases h
 .cases h
end
section
open Go Go.Am
abbrev vE:Box:=.cells [aJ,aJ,aJ,aJ,aJ,aJ] true
def isB (o:Option Box) (b:Box):Bool:=match o with|some x=>eqB x b|none=>false
structure iT (kind:Int) (k:Nat) (cl:List Str) (rs:List Rul):Prop where
 ex:∃ (dc dr:D) (bs L2:List (Nat×Box)) (N2:Nat) (H3:aA),@AC1 gtR Tryz.prog 82 [i64 kind] ⟨k,[]⟩ (.agg [dc,dr]) ⟨199999,bs⟩/\aY bs 0=none /\
  @AC1 gtR Tryz.prog 103 [.agg [dc,dr]] ⟨200005,(200001,vE)::(200000,.cells [dc,dr] true)::bs⟩ (i64 0) ⟨N2,L2⟩/\aY L2 200001=some vE/\aY L2 200000=some (.cells [dc,dr] true) /\
  (∀ id b,H3.get id=some b->aY L2 id=some b/\(id != 200001)=true)/\Rd H3 (λ_=>true) (λ_=>none) dc (strs cl)/\Rd H3 (λ_=>true) (λ_=>none) dr (lstS cC rs) /\
  Rd ⟨199999,bs⟩ (λ_=>true) (λ_=>none) dc (strs cl)/\Rd ⟨199999,bs⟩ (λ_=>true) (λ_=>none) dr (lstS cC rs)
noncomputable def sW (sp:FuncId->List D->Option D) (f:Nat) (dcl drs:D) (d1:D) (h1:HT) (nx1:Nat):Bool:=
 match d1 with
 | .agg [dc,dr]=>Nat.ble nx1 199999&&(match h1.get 0 with|none=>true|some _=>false)&&(cQ h1 100000 dc dcl&&cQ h1 100000 dr drs) &&
  @mA gtR Tryz.prog (ci Tryz.prog) sp f (.fn 103) [.agg [dc,dr]] ((h1.put 200000 (.cells [dc,dr] true)).put 200001 vE) 200005 (λd2 h2 _=>
   eqD d2 (i64 0)&&isB (h2.get 200001) vE&&isB (h2.get 200000) (.cells [dc,dr] true)&&cQ (h2.del 200001) 100000 dc dcl&&cQ (h2.del 200001) 100000 dr drs)
 | _=>false
theorem Fe {o:Option Box}{b:Box}(h:isB o b=true):o=some b:=by
 unfold isB at h;split at h
 .rw[@Fz gtR _ _ h]
 .cases h
theorem iT.of_x {sp:FuncId->List D->Option D}(S:@mg gtR Tryz.prog sp){kind:Int}{k f f2:Nat}{cl:List Str}{rs:List Rul}(h:@mA gtR Tryz.prog (ci Tryz.prog) sp f (.fn 82) [i64 kind] .emp k (sW sp f2 (strs cl) (lstS cC rs))=true):iT kind k cl rs:=by
 letI:=gtR;obtain⟨d1,h1,nx1,k1,k2⟩:=iV aB T0 S f _ _ _ _ _ h;unfold sW at k2;split at k2
 .rename_i dc dr;simp only[kC,Nat.ble_eq] at k2;obtain⟨⟨⟨hn,h0⟩,hq⟩,hc⟩:=k2;obtain⟨d2,h2,nx2,c1,c2⟩:=iV aB T0 S f2 _ _ _ _ _ hc;simp only[kC] at c2;obtain⟨⟨⟨⟨e1,e2⟩,e3⟩,e4⟩,e5⟩:=c2;rw[dS _ _ e1] at c1;have g1:=Fe e2;have g2:=Fe e3
  have hg0:h1.get 0=none:=by
   cases hx:h1.get 0 with
   | none=>rfl
   | some b=>rw[hx] at h0;cases h0
  have hgl:∀ (t:HT) (n i:Nat),aY (t.heap n).bs i=t.get i:=λt n i=>HT.heap_get
  refine⟨dc,dr,(h1.heap nx1).bs,(h2.heap nx2).bs,nx2,(h2.del 200001).heap 0,AC1.less k1 ⟨hn,λid box hg=>hg⟩,by rw[hgl];exact hg0,?_,by rw[hgl];exact g1,by rw[hgl];exact g2,λid b hg=>?_,jL _ _ _ e4,jL _ _ _ e5,jL (m:=199999) _ _ _ hq.1,jL (m:=199999) _ _ _ hq.2⟩
  .refine AC1.congr (h:=((h1.put 200000 (.cells [dc,dr] true)).put 200001 vE).heap 200005) ⟨rfl,λi=>?_⟩ ⟨rfl,λi=>rfl⟩ c1;rw[HT.heap_get,HT.get_put,HT.get_put];simp only[aA.get,aY];rw[hgl]
  .rw[HT.heap_get,HT.get_del] at hg;split at hg
   .cases hg
   .rename_i hne;exact⟨by rw[hgl];exact hg,by simpa using λe=>hne e.symm⟩
 .cases k2
noncomputable def FO (sp:FuncId->List D->Option D) (f:Nat) (dcl drs:D) (d1:D) (h1:HT) (nx1:Nat):Bool:=
 match d1 with
 | .agg [dc,dr]=>Nat.ble nx1 199999&&(match h1.get 0 with|none=>true|some _=>false)&&(cQ h1 100000 dc dcl&&cQ h1 100000 dr drs) &&
  cK gtR Tryz.prog (ci Tryz.prog) sp f (.fn 103) [.agg [dc,dr]] ((h1.put 200000 (.cells [dc,dr] true)).put 200001 vE) 200005 (λd2 h2 _=>
   eqD d2 (i64 0)&&isB (h2.get 200001) vE&&isB (h2.get 200000) (.cells [dc,dr] true)&&cQ (h2.del 200001) 100000 dc dcl&&cQ (h2.del 200001) 100000 dr drs)
 | _=>false
theorem iT.of_t {sp:FuncId->List D->Option D}(S:@mg gtR Tryz.prog sp){kind:Int}{k f f2:Nat}{cl:List Str}{rs:List Rul}(h:cK gtR Tryz.prog (ci Tryz.prog) sp f (.fn 82) [i64 kind] .emp k (FO sp f2 (strs cl) (lstS cC rs))=true):iT kind k cl rs:=by
 have e:FO sp f2 (strs cl) (lstS cC rs)=sW sp f2 (strs cl) (lstS cC rs):=by
  funext d1 h1 nx1;unfold FO sW;rw[ru]
 rw[ru,e] at h;exact iT.of_x S h
end
section
open Go Go.Am Classical
theorem Bg {F n:Nat}{rs:List Rul}{L R:Mch}{a b:Aut}(hL:gu true F n n (rs.map (·.left)) ⟨[],[],[]⟩=some L) (hR:gu false F n (n+1) (rs.map (·.right)) ⟨[],[],[]⟩=some R) (oL:okA n L=true) (oR:okA n R=true)
  (aL:i8 n L.nx L.ro F 0 [L.hi] [] []=some a) (aR:i8 n R.nx R.ro F 0 [R.hi] [] []=some b):comp F n rs=some (a,b):=by
 unfold comp;simp only[hL,hR,oL,oR,and_self,if_true,aL,aR]
theorem Cg (cl:List Str) (acts:List Int) (a b c d:List (List Nat)):aK (.agg [strs cl,aC acts,bN a,bN b,bN c,bN d])=true:=by
 letI:=gtR;simp[aK,aF,aX,aM,eR]
theorem Aj {kind:Int}{k F:Nat}{cl:List Str}{rs:List Rul}{LN LM RN RM:List (List Nat)}(hk:(kind=1/\k=6)\/(kind=2/\k=8)\/(kind=3/\k=10)\/(kind=4/\k=12)) (hp:iT kind k cl rs) (hF:F<=10000) (hn:cl.length<=999) (hcl0:0<cl.length) (hrl:rs.length<=1000) (hrs0:0<rs.length)
  (h:comp F cl.length rs=some ((LN,LM),(RN,RM))):@Pu gtR Tryz.prog 54 [i64 kind] (.agg [strs cl,aC (rs.map (·.act)),bN LN,bN LM,bN RN,bN RM]):=by
 letI:=gtR;obtain⟨dc,dr,bs,L2,N2,H3,h1,h2,h3,h4,h5,h6,h7,h8,_,_⟩:=hp.ex;have hc:=DM hF hn hcl0 hrl hrs0 h h3 h4 h5 h6 h7 h8
 have f1:=h1.frame [(0,vE)] (λj B hj=>by
  simp only[aY] at hj;split at hj
  .rename_i e;subst e;exact⟨rfl,h2⟩
  .cases hj)
 have f2:=hc.frame [(0,vE)] (λj B hj=>by
  simp only[aY] at hj;split at hj
  .rename_i e;subst e;exact⟨h2,rfl⟩
  .cases hj)
 simp only[List.cons_append,List.nil_append,List.append_nil] at f1 f2;rcases hk with⟨rfl,rfl⟩|⟨rfl,rfl⟩|⟨rfl,rfl⟩|⟨rfl,rfl⟩
 all_goals
  refine pv Tryz.func54 ?_;repeat' ((conv=>whnf);first|exact kQ|(refine bk ?_ ?_<;>intro _<;>try exact exo)|refine stq ?_|refine p8 ?_|refine Cll.mk ⟨_,_,f1,?_⟩|refine Cll.mk ⟨_,_,f2,?_⟩|fail)
  (conv=>whnf)
  exact aD.same (Cg _ _ _ _ _ _) rfl
end
section
open Go Go.Am
def toN:List Bool->Nat
 | []=>0
 | b::l=>(if b then 1 else 0)+2*toN l
theorem uc:∀ (l:List Bool) (r:Nat),(toN l).testBit r=l.getD r false
 | [],r=>by simp[toN]
 | b::l,0=>by cases b<;>simp[toN,Nat.testBit_zero]<;>omega
 | b::l,r+1=>by
  have h:toN (b::l) / 2=toN l:=by simp only[toN];split<;>omega
  rw[Nat.testBit_succ,h,uc l r];simp
theorem Ag:∀ {a b:List Bool},a.length=b.length->toN a=toN b->a=b
 | [],[],_,_=>rfl
 | x::a,y::b,hl,h=>by
  have h1:toN a=toN b:=by simp only[toN] at h;cases x<;>cases y<;>simp at h<;>omega
  have h2:x=y:=by simp only[toN] at h;cases x<;>cases y<;>simp at h ⊢<;>omega
  rw[h2,Ag (by simpa using hl) h1]
 | [],_::_,hl,_=>by simp at hl
 | _::_,[],hl,_=>by simp at hl
def GE (cur:Nat):List Nat->Nat
 | []=>0
 | r::l=>(if cur.testBit r then 1 else 0)+2*GE cur l
theorem Bh {cur:List Bool}{c:Nat}:∀ (next:List (List Nat)),GE (toN cur) (next.map (·.getD c 0))=toN (nxB next cur c)
 | []=>rfl
 | r::l=>by
  have ih:=Bh (cur:=cur) (c:=c) l;simp only[nxB] at ih;simp only[List.map_cons,GE,nxB,toN,uc,ih]
def Fk (x:Nat):List Nat->Nat->Option Nat
 | [],_=>none
 | y::l,i=>if Nat.beq x y=true then some i else Fk x l (i+1)
def EZ (cur:Nat):List (List Nat)->List Nat->List Nat->Option (List Nat×List Nat)
 | [],ss,row=>some (row,ss)
 | col::cols,ss,row=>
  match Fk (GE cur col) ss 0 with
  | some i=>EZ cur cols ss (row++[i])
  | none=>if ss.length<400 then EZ cur cols (ss++[GE cur col]) (row++[ss.length]) else none
def FE (cur:Nat):List Nat->Nat->List Nat
 | [],_=>[]
 | r::l,i=>if cur.testBit r then i::FE cur l (i+1) else FE cur l (i+1)
def I1 (cols:List (List Nat)) (roots:List Nat):Nat->Nat->List Nat->List (List Nat)->List (List Nat)->Option (List (List Nat)×List (List Nat))
 | 0,_,_,_,_=>none
 | f+1,i,ss,rows,marks=>
  match ss[i]? with
  | none=>some (rows,marks)
  | some cur=>
   match EZ cur cols ss [] with
   | none=>none
   | some (row,ss')=>I1 cols roots f (i+1) ss' (rows++[row]) (marks++[FE cur roots 0])
theorem BP {s:List Bool}{N:Nat}(hs:s.length=N):∀ (ss:List (List Bool)) (i:Nat),(∀ t∈ss,t.length=N)->Fk (toN s) (ss.map toN) i=if s∈ss then some (i+ss.idxOf s) else none
 | [],i,_=>by simp[Fk]
 | t::ss,i,h=>by
  have ih:=BP hs ss (i+1) (λx hx=>h x (by simp[hx]));simp only[List.map_cons,Fk];by_cases e:s=t
  .subst e;simp
  .have hne:¬toN s=toN t:=λhx=>e (Ag (by rw[hs,h t si]) hx)
   rw[if_neg (by simpa using hne),ih];have e':¬t=s:=λhx=>e hx.symm
   simp only[kH,e,false_or,List.idxOf_cons,beq_eq_false_iff_ne.2 e',cond_false];split
   .congr 1;omega
   .rfl
theorem BG {cur:List Bool}:∀ (l:List Nat) (i:Nat),FE (toN cur) l i=iA cur l i
 | [],_=>rfl
 | r::l,i=>by simp only[FE,iA,uc,BG l (i+1)]
theorem um {next:List (List Nat)}{cur:List Bool}:∀ (k c:Nat) (ss:List (List Bool)) (row:List Nat),(∀ t∈ss,t.length=next.length) ->
  EZ (toN cur) ((List.range' c k).map λc=>next.map (·.getD c 0)) (ss.map toN) row=(jK next cur k c ss row).map (λp=>(p.1,p.2.map toN))/\∀ p,jK next cur k c ss row=some p->∀ t∈p.2,t.length=next.length
 | 0,c,ss,row,h=>⟨rfl,λp hp=>by simp only[jK,kA] at hp;subst hp;exact h⟩
 | k+1,c,ss,row,h=>by
  have hl:(nxB next cur c).length=next.length:=List.length_map _
  simp only[List.range'_succ,List.map_cons,EZ,Bh,BP hl ss 0 h,jK,Nat.zero_add];by_cases hm:nxB next cur c∈ss
  .simp only[hm,if_true];exact um k (c+1) ss _ h
  .simp only[hm,if_false,List.length_map];by_cases h4:ss.length<400
   .simp only[h4,if_true]
    have:=um (next:=next) (cur:=cur) k (c+1) (ss++[nxB next cur c]) (row++[ss.length]) (λt ht=>by
     rcases List.mem_append.1 ht with ht|ht
     .exact h t ht
     .simp at ht;subst ht;exact hl)
    simpa using this
   .simp only[h4,if_false,Option.map_none];exact⟨trivial,λp hp=>by cases hp⟩
theorem Bp {n:Nat}{next:List (List Nat)}{roots:List Nat}:∀ (f i:Nat) (ss:List (List Bool)) (rows marks:List (List Nat)),(∀ t∈ss,t.length=next.length) ->
  I1 ((List.range' 0 n).map λc=>next.map (·.getD c 0)) roots f i (ss.map toN) rows marks=i8 n next roots f i ss rows marks
 | 0,_,_,_,_,_=>rfl
 | f+1,i,ss,rows,marks,h=>by
  simp only[I1,i8,List.getElem?_map];cases hi:ss[i]? with
  | none=>rfl
  | some cur=>
   obtain⟨h1,h2⟩:=um (cur:=cur) n 0 ss [] h;simp only[kF,h1];cases hr:jK next cur n 0 ss [] with
   | none=>rfl
   | some p=>simp only[kF,BG];exact Bp f (i+1) p.2 _ _ (h2 p hr)
theorem vq {n F:Nat}{m:Mch}{cols:List (List Nat)}{x:Nat}{a:Aut}(hc:(List.range' 0 n).map (λc=>m.nx.map (·.getD c 0))=cols) (hx:toN m.hi=x) (hl:m.hi.length=m.nx.length) (h:I1 cols m.ro F 0 [x] [] []=some a):i8 n m.nx m.ro F 0 [m.hi] [] []=some a:=by
 rw[<-Bp F 0 [m.hi] [] [] (by simpa using hl),hc];simpa [hx] using h
def sx:List Nat->List Nat->List Nat
 | k::v::l,r=>sx l (r.set k v)
 | _,r=>r
def ux:List (Nat×List Nat)->List (List Nat)->List (List Nat)
 | [],a=>a
 | (0,r)::l,a=>ux l (a++[r])
 | (1,n::z::d)::l,a=>ux l (a++[sx d (List.replicate n z)])
 | (1,_)::l,a=>ux l a
 | (j+2,d)::l,a=>ux l (a++[sx d (a.getD j [])])
end
section
open Go Go.Am
noncomputable def wi:List (Str×List Str)->Bool
 | []=>true
 | (l,t)::r=>cK gtR Tryz.prog (ci Tryz.prog) spC 100 (.fn 188) [.str l] .emp 0 (λd h _=>cQ h 100000 d (strs t))&&wi r
theorem wh:∀ {T:List (Str×List Str)},wi T=true->∀ p∈T,@Pu gtR Tryz.prog 188 [.str p.1] (strs p.2)
 | [],_,p,hp=>by simp at hp
 | (l,t)::r,h,p,hp=>by
  simp only[wi,kC] at h;rcases List.mem_cons.1 hp with rfl|hp
  .letI:=gtR;exact Pu.of_t aB T0 eZ rfl h.1
  .exact wh h.2 p hp
def xa (l:Str):List (Str×List Str)->Option (List Str)
 | []=>none
 | p::r=>if jI l p.1=true then some p.2 else xa l r
theorem tZ {l:Str}{t:List Str}:∀ {T:List (Str×List Str)},xa l T=some t->(l,t)∈T
 | [],h=>by simp[xa] at h
 | p::r,h=>by
  letI:=gtR;simp only[xa] at h;split at h
  .rename_i e;injection h with h
   rw[cM.1 e,<-h];simp
  .exact List.mem_cons_of_mem _ (tZ h)
noncomputable def spL (T:List (Str×List Str)) (g:FuncId) (ds:List D):Option D:=
 if Nat.beq g 188=true then
  match ds with
  | [.str l]=>(match xa l T with|some t=>some (strs t)|none=>none)
  | _=>none
 else spC g ds
theorem spL_ok {T:List (Str×List Str)}(h:wi T=true):@mg gtR Tryz.prog (spL T):=λg ds d hd=>by
 unfold spL at hd;split at hd
 .rename_i hg;obtain rfl:=Nat.eq_of_beq_eq_true hg;split at hd
  .split at hd
   .rename_i t ht;injection hd with hd;subst hd
    exact wh h _ (tZ ht)
   .cases hd
  .cases hd
 .exact eZ g ds d hd
end
section
abbrev rq (n x:Nat):List Nat:=List.replicate n x
end
section
open Go Go.Am
def sc4:List (Str×List Str):=[
 ([109,117,115,116,32,77,97,110,100,97,116,111,114,121,32,47],[[109,117,115,116],[77,97,110,100,97,116,111,114,121],[47]]),
 ([107,101,101,112,32,67,82,32,47,32,76,70],[[107,101,101,112],[67,82],[47],[76,70]]),
 ([109,117,115,116,32,91,67,82,32,76,70,32,78,101,119,108,105,110,101,93,32,47],[[109,117,115,116],[91],[67,82],[76,70],[78,101,119,108,105,110,101],[93],[47]]),
 ([107,101,101,112,32,47,32,91,77,97,110,100,97,116,111,114,121,32,67,82,32,76,70,32,78,101,119,108,105,110,101,93],[[107,101,101,112],[47],[91],[77,97,110,100,97,116,111,114,121],[67,82],[76,70],[78,101,119,108,105,110,101],[93]]),
 ([107,101,101,112,32,47,32,91,83,112,97,99,101,32,90,101,114,111,83,112,97,99,101,93],[[107,101,101,112],[47],[91],[83,112,97,99,101],[90,101,114,111,83,112,97,99,101],[93]]),
 ([98,114,101,97,107,32,90,101,114,111,83,112,97,99,101,32,83,112,97,99,101,42,32,47],[[98,114,101,97,107],[90,101,114,111,83,112,97,99,101],[83,112,97,99,101],[42],[47]]),
 ([107,101,101,112,32,74,111,105,110,101,114,32,47],[[107,101,101,112],[74,111,105,110,101,114],[47]]),
 ([98,114,101,97,107,32,83,112,97,99,101,32,47,32,91,67,111,109,98,105,110,105,110,103,32,74,111,105,110,101,114,93],[[98,114,101,97,107],[83,112,97,99,101],[47],[91],[67,111,109,98,105,110,105,110,103],[74,111,105,110,101,114],[93]]),
 ([97,116,116,97,99,104,32,91,67,111,109,98,105,110,105,110,103,32,74,111,105,110,101,114,93],[[97,116,116,97,99,104],[91],[67,111,109,98,105,110,105,110,103],[74,111,105,110,101,114],[93]]),
 ([107,101,101,112,32,47,32,87,111,114,100,74,111,105,110,101,114],[[107,101,101,112],[47],[87,111,114,100,74,111,105,110,101,114]]),
 ([107,101,101,112,32,87,111,114,100,74,111,105,110,101,114,32,47],[[107,101,101,112],[87,111,114,100,74,111,105,110,101,114],[47]]),
 ([107,101,101,112,32,71,108,117,101,32,47],[[107,101,101,112],[71,108,117,101],[47]]),
 ([107,101,101,112,32,91,94,83,112,97,99,101,32,65,102,116,101,114,32,72,121,112,104,101,110,32,67,111,109,98,105,110,105,110,103,32,74,111,105,110,101,114,93,32,47,32,71,108,117,101],[[107,101,101,112],[91],[94],[83,112,97,99,101],[65,102,116,101,114],[72,121,112,104,101,110],[67,111,109,98,105,110,105,110,103],[74,111,105,110,101,114],[93],[47],[71,108,117,101]]),
 ([107,101,101,112,32,47,32,91,67,108,111,115,101,80,32,69,120,99,108,97,109,32,73,110,102,105,120,32,83,121,109,98,111,108,93],[[107,101,101,112],[47],[91],[67,108,111,115,101,80],[69,120,99,108,97,109],[73,110,102,105,120],[83,121,109,98,111,108],[93]]),
 ([107,101,101,112,32,79,112,101,110,32,83,112,97,99,101,42,32,47],[[107,101,101,112],[79,112,101,110],[83,112,97,99,101],[42],[47]]),
 ([107,101,101,112,32,81,117,111,116,101,32,83,112,97,99,101,42,32,47,32,79,112,101,110],[[107,101,101,112],[81,117,111,116,101],[83,112,97,99,101],[42],[47],[79,112,101,110]]),
 ([107,101,101,112,32,67,108,111,115,101,80,32,83,112,97,99,101,42,32,47,32,78,111,110,83,116,97,114,116,101,114],[[107,101,101,112],[67,108,111,115,101,80],[83,112,97,99,101],[42],[47],[78,111,110,83,116,97,114,116,101,114]]),
 ([107,101,101,112,32,66,111,116,104,32,83,112,97,99,101,42,32,47,32,66,111,116,104],[[107,101,101,112],[66,111,116,104],[83,112,97,99,101],[42],[47],[66,111,116,104]]),
 ([98,114,101,97,107,32,83,112,97,99,101,32,47],[[98,114,101,97,107],[83,112,97,99,101],[47]]),
 ([107,101,101,112,32,47,32,81,117,111,116,101],[[107,101,101,112],[47],[81,117,111,116,101]]),
 ([107,101,101,112,32,81,117,111,116,101,32,47],[[107,101,101,112],[81,117,111,116,101],[47]]),
 ([107,101,101,112,32,47,32,91,65,102,116,101,114,32,72,121,112,104,101,110,32,78,111,110,83,116,97,114,116,101,114,93],[[107,101,101,112],[47],[91],[65,102,116,101,114],[72,121,112,104,101,110],[78,111,110,83,116,97,114,116,101,114],[93]]),
 ([107,101,101,112,32,66,101,102,111,114,101,32,47],[[107,101,101,112],[66,101,102,111,114,101],[47]]),
 ([107,101,101,112,32,47,32,73,110,115,101,112,97,114,97,98,108,101],[[107,101,101,112],[47],[73,110,115,101,112,97,114,97,98,108,101]]),
 ([107,101,101,112,32,79,116,104,101,114,32,47,32,78,117,109,101,114,105,99],[[107,101,101,112],[79,116,104,101,114],[47],[78,117,109,101,114,105,99]]),
 ([107,101,101,112,32,78,117,109,101,114,105,99,32,47,32,79,116,104,101,114],[[107,101,101,112],[78,117,109,101,114,105,99],[47],[79,116,104,101,114]]),
 ([107,101,101,112,32,80,114,101,102,105,120,32,47,32,73,100,101,111,103,114,97,112,104],[[107,101,101,112],[80,114,101,102,105,120],[47],[73,100,101,111,103,114,97,112,104]]),
 ([107,101,101,112,32,73,100,101,111,103,114,97,112,104,32,47,32,80,111,115,116,102,105,120],[[107,101,101,112],[73,100,101,111,103,114,97,112,104],[47],[80,111,115,116,102,105,120]]),
 ([107,101,101,112,32,91,80,114,101,102,105,120,32,80,111,115,116,102,105,120,93,32,47,32,79,116,104,101,114],[[107,101,101,112],[91],[80,114,101,102,105,120],[80,111,115,116,102,105,120],[93],[47],[79,116,104,101,114]]),
 ([107,101,101,112,32,79,116,104,101,114,32,47,32,91,80,114,101,102,105,120,32,80,111,115,116,102,105,120,93],[[107,101,101,112],[79,116,104,101,114],[47],[91],[80,114,101,102,105,120],[80,111,115,116,102,105,120],[93]]),
 ([107,101,101,112,32,91,67,108,111,115,101,80,32,78,117,109,101,114,105,99,93,32,47,32,91,80,114,101,102,105,120,32,80,111,115,116,102,105,120,93],[[107,101,101,112],[91],[67,108,111,115,101,80],[78,117,109,101,114,105,99],[93],[47],[91],[80,114,101,102,105,120],[80,111,115,116,102,105,120],[93]]),
 ([107,101,101,112,32,91,80,114,101,102,105,120,32,80,111,115,116,102,105,120,93,32,47,32,91,79,112,101,110,32,78,117,109,101,114,105,99,93],[[107,101,101,112],[91],[80,114,101,102,105,120],[80,111,115,116,102,105,120],[93],[47],[91],[79,112,101,110],[78,117,109,101,114,105,99],[93]]),
 ([107,101,101,112,32,91,72,121,112,104,101,110,32,73,110,102,105,120,32,78,117,109,101,114,105,99,32,83,121,109,98,111,108,93,32,47,32,78,117,109,101,114,105,99],[[107,101,101,112],[91],[72,121,112,104,101,110],[73,110,102,105,120],[78,117,109,101,114,105,99],[83,121,109,98,111,108],[93],[47],[78,117,109,101,114,105,99]]),
 ([107,101,101,112,32,79,116,104,101,114,32,47,32,79,116,104,101,114],[[107,101,101,112],[79,116,104,101,114],[47],[79,116,104,101,114]]),
 ([107,101,101,112,32,73,110,102,105,120,32,47,32,79,116,104,101,114],[[107,101,101,112],[73,110,102,105,120],[47],[79,116,104,101,114]]),
 ([107,101,101,112,32,91,79,116,104,101,114,32,78,117,109,101,114,105,99,93,32,47,32,79,112,101,110],[[107,101,101,112],[91],[79,116,104,101,114],[78,117,109,101,114,105,99],[93],[47],[79,112,101,110]]),
 ([107,101,101,112,32,67,108,111,115,101,80,32,47,32,91,79,116,104,101,114,32,78,117,109,101,114,105,99,93],[[107,101,101,112],[67,108,111,115,101,80],[47],[91],[79,116,104,101,114],[78,117,109,101,114,105,99],[93]]),
 ([107,101,101,112,32,115,116,97,114,116,32,40,82,101,103,105,111,110,32,82,101,103,105,111,110,41,42,32,82,101,103,105,111,110,32,47,32,82,101,103,105,111,110],[[107,101,101,112],[115,116,97,114,116],[40],[82,101,103,105,111,110],[82,101,103,105,111,110],[41],[42],[82,101,103,105,111,110],[47],[82,101,103,105,111,110]]),
 ([107,101,101,112,32,91,94,82,101,103,105,111,110,32,67,111,109,98,105,110,105,110,103,32,74,111,105,110,101,114,93,32,40,82,101,103,105,111,110,32,82,101,103,105,111,110,41,42,32,82,101,103,105,111,110,32,47,32,82,101,103,105,111,110],[[107,101,101,112],[91],[94],[82,101,103,105,111,110],[67,111,109,98,105,110,105,110,103],[74,111,105,110,101,114],[93],[40],[82,101,103,105,111,110],[82,101,103,105,111,110],[41],[42],[82,101,103,105,111,110],[47],[82,101,103,105,111,110]]),
 ([],[])
]
theorem scan4:wi sc4=true:=by kernel_rfl
end
end Go.Proofs.YtlimkdlhldlolaaGreatDoor
