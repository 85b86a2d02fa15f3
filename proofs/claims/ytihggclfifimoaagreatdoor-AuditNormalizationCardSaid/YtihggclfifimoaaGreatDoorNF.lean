/-
  Contracts of functions over data: the runs of a text (an iterator, and what collects them).
-/
import Derived.Test.YtihggclfifimoaaGreatDoorND
set_option linter.unusedSectionVars false
namespace Go.Proofs.YtihggclfifimoaaGreatDoor
open Go Go.Am Classical
set_option maxHeartbeats 4000000
set_option maxRecDepth 100000
section
theorem xNF.rdX {p:Prop}(h:p:=by first|exact Rd.yf rfl|exact Rd.same (nbT l t).1|exact Rd.same (nbT l t).2|exact Rd.int om|exact Rd.same rfl|exact Rd.sl' rfl sim sim|fail):p:=h
theorem xNF.rbX {p:Prop}(h:p:=by first|exact Rb.dfr|exact rbR|exact Rb.cells (Rds.eqs (ae (c:=bq) (sz:=2) (by intro _;rfl) (x::xs) (⟨s,k⟩:Rng)) (aG (by intro _;rfl) _)) rfl|exact Rb.cells (Rds.eqs (ae (c:=bq) (sz:=2) (by intro _;rfl) (x::xs) (⟨s,t.length⟩:Rng)) (aG (by intro _;rfl) _)) rfl|fail):p:=h
open xNF
def rnF (cl:Int->Int):Nat->Int->List Int->List Rng
 | i,s,[]=>if 0<=s then [⟨s,i⟩] else []
 | i,s,c::t=>if cl c=0 then(if 0<=s then⟨s,i⟩::rnF cl (i+1) (-1) t else rnF cl (i+1) (-1) t) else if 0<=s then rnF cl (i+1) s t else rnF cl (i+1) i t
abbrev mj (l:List Spn) (t:List Int):List Rng:=rnF (aJ l) 0 (-1) t
abbrev tv (l:List Spn) (t:List Int):D:=.fn (.func 345) [] [.iptr [aF t],.iptr [bC l]]
noncomputable abbrev wc (l:List Spn) (t:List Int):Box:=.loop .ready none [aO,tv l t,.ptr 0 0,aM,aO,aM,tv l t,aM,aM,aM,aM,aM,aM] [7] (fnA Tryz.f223) (fnB Tryz.f223)
theorem nbT (l:List Spn) (t:List Int):aL (.iptr [aF t])=true∧aL (.iptr [bC l])=true:=by simp[aL,aK,aC,aY]
theorem rbR {h:aB}{fz:Nat->Bool}{σl:List (Nat×Nat)}{l:List Spn}{t:List Int}:Rb h fz (sgm 5 σl) (wc l t) (wc l t):=
 .loop (by repeat(first|exact Rds.nil|refine Rds.cons (by first|exact Rd.same rfl|exact Rd.ptr rfl|exact Rd.same (by simp[aL,aK,aC,aY])) ?_))
theorem nw {cl:Int->Int}{i:Nat}{s:Int}{t:List Int}{k:Nat}(h:k<t.length):rnF cl i s (t.drop k)=rnF cl i s (t[k]::t.drop (k+1)):=by rw[<-kK h]
theorem BE {l:List Spn}{t:List Int}(hl:l.length<=1000) (hr:lA l) (ht:t.length<=100000) :
  AC1 Tryz.prog 345 [.yf 4,.iptr [aF t],.iptr [bC l]] ⟨5,[(4,wc l t),(3,.dfr),(0,.cells [aO] true)]⟩ (.tup []) ⟨7,gA 5 bq (mj l t)++[(4,wc l t),(3,.dfr),(0,.cells [fB 5 2 (mj l t)] true)]⟩:=by
 refine AC1.of_vf aA T0 Tryz.func345 rfl rfl ?_;repeat' ((conv=>whnf);first|exact kQ|(refine bk ?_ ?_<;>intro _<;>try(exfalso;omega))|refine stq ?_)
 all_goals(conv=>whnf)
 refine aH.by3 aA T0 (λ(k:Nat) (s:Int) (o:List Rng)=>⟨tmp 48 [(0,.yf 4),(1,.iptr [aF t]),(2,.iptr [bC l]),(4,i64 s),(8,aF t),(9,i64 t.length),(10,i64 (k:Int))],⟨6,gA 5 bq o++[(4,wc l t),(3,.dfr),(0,.cells [fB 5 2 o] true)]⟩⟩)
  (λk s o=>(k<=t.length∧o.length<=k∧-1<=s∧s<=k)∧mj l t=o++rnF (aJ l) k s (t.drop k)) (λk _ _=>t.length-k) 0 (-1) [] ⟨⟨by omega,by simp,by omega,by omega⟩,rfl⟩ ?_ ?_
 ·exact lq0
 intro k s o ⟨⟨h3,h5,h6,h7⟩,h4⟩;cases o with
 | nil=>
  repeat' ((conv=>whnf);first|exact kQ|(refine bk ?_ ?_<;>intro _<;>try(exfalso;omega))|refine stq ?_|refine cp (lT hl hr) ?_|(apply Yll.sv rfl rfl (SvR.region T0 ?_);rotate_left)|exact And.intro rfl rfl|refine And.intro rfl (SvR.block (SvR.region T0 ?_))|fail)
  all_goals(conv=>whnf)
  all_goals first
   | (refine⟨k+1,-1,[⟨s,k⟩],⟨⟨by omega,by simp,by omega,by omega⟩,by rw[h4,nw om,rnF,if_pos asm,if_pos asm];rfl⟩,by omega,?_⟩
      exact lq [(5,38)] [])
   | (refine⟨k+1,s,[],⟨⟨by omega,by simp,by omega,by omega⟩,by rw[h4,nw om,rnF];first|rw[if_neg asm,if_pos om]|(rw[if_pos asm,if_neg om,show s = -1 by omega])⟩,by omega,?_⟩
      exact lq0)
   | (refine⟨k+1,k,[],⟨⟨by omega,by simp,by omega,by omega⟩,by rw[h4,nw om,rnF,if_neg asm,if_neg om]⟩,by omega,?_⟩
      exact lq0)
   | (refine⟨Or.inl rfl,_,rfl,?_⟩
      rw[show mj l t=[⟨s,t.length⟩] by rw[h4,List.drop_of_length_le om,rnF,if_pos asm,show(k:Int)=t.length by omega];rfl]
      exact lq [(5,20)] [])
   | (refine⟨Or.inl rfl,_,rfl,?_⟩
      rw[show mj l t=[] by rw[h4,List.drop_of_length_le om,rnF,if_neg asm];rfl]
      exact lq0)
 | cons x xs=>
  have hlen:(x::xs).length<=100000:=by omega
  repeat' ((conv=>whnf);first|exact kQ|(refine bk ?_ ?_<;>intro _<;>try(exfalso;omega))|refine stq ?_|refine cp (lT hl hr) ?_|(apply Yll.sv rfl rfl (SvR.region T0 ?_);rotate_left)|exact And.intro rfl rfl|refine And.intro rfl (SvR.block (SvR.region T0 ?_))|fail)
  all_goals(conv=>whnf)
  all_goals first
   | (refine⟨k+1,-1,(x::xs)++[⟨s,k⟩],⟨⟨by omega,by simp only[kG,List.length_singleton];omega,by omega,by omega⟩,by rw[h4,nw om,rnF,if_pos asm,if_pos asm,List.append_assoc];rfl⟩,by omega,?_⟩
      exact lq [(5,38)] [])
   | (refine⟨k+1,s,x::xs,⟨⟨by omega,by omega,by omega,by omega⟩,by rw[h4,nw om,rnF];first|rw[if_neg asm,if_pos om]|(rw[if_pos asm,if_neg om,show s = -1 by omega])⟩,by omega,?_⟩
      exact lq [(5,5)] [])
   | (refine⟨k+1,k,x::xs,⟨⟨by omega,by omega,by omega,by omega⟩,by rw[h4,nw om,rnF,if_neg asm,if_neg om]⟩,by omega,?_⟩
      exact lq [(5,5)] [])
   | (refine⟨Or.inl rfl,_,rfl,?_⟩
      rw[show mj l t=(x::xs)++[⟨s,t.length⟩] by rw[h4,List.drop_of_length_le om,rnF,if_pos asm,show(k:Int)=t.length by omega]]
      exact lq [(5,20)] [])
   | (refine⟨Or.inl rfl,_,rfl,?_⟩
      rw[show mj l t=x::xs by rw[h4,List.drop_of_length_le om,rnF,if_neg asm,List.append_nil]]
      exact lq [(5,5)] [])
end
section
theorem AppR_c {l:List Spn}{t:List Int}(hl:l.length<=1000) (hr:lA l) (ht:t.length<=100000):Pu Tryz.prog 223 [aO,tv l t] (bD (mj l t)):=by
 have h1:=BE hl hr ht;refine Pu.of_fw (ti:=pH Tryz.prog) Tryz.func223 rfl rfl (by simp[aL,aK,aC,aY]) ?_;generalize mj l t=o at h1 ⊢;cases o with
 | nil=>
  repeat' ((conv=>whnf);first|exact kQ|(refine bk ?_ ?_<;>intro _<;>try(exfalso;omega))|refine stq ?_|refine Fw.range aA T0 rfl h1 rfl si ?_|refine Fw.split ?_|refine Fw.one aA T0 ?_|fail)
  all_goals(conv=>whnf)
  exact⟨rfl,_,rfl,⟨.nil⟩⟩
 | cons x xs=>
  repeat' ((conv=>whnf);first|exact kQ|(refine bk ?_ ?_<;>intro _<;>try(exfalso;omega))|refine stq ?_|refine Fw.range aA T0 rfl h1 rfl si ?_|refine Fw.split ?_|refine Fw.one aA T0 ?_|fail)
  all_goals(conv=>whnf)
  exact⟨rfl,_,rfl,aE.own (id:=5) (es:=2) (c:=bq) (l:=x::xs) (λ_=>rfl) (λ_=>rfl)⟩
theorem G8 {l:List Spn}{t:List Int}(hl:l.length<=1000) (hr:lA l) (ht:t.length<=100000):Pu Tryz.prog 122 [tv l t] (bD (mj l t)):=by
 refine pv Tryz.func122 ?_;repeat' ((conv=>whnf);first|exact kQ|(refine bk ?_ ?_<;>intro _<;>try(exfalso;omega))|refine stq ?_|refine cp (AppR_c hl hr ht) ?_|fail)
 all_goals(conv=>whnf)
 exact aE.same (aV _) rfl
theorem yV {l:List Spn}{t:List Int}:Pk Tryz.prog 272 [bC l,aF t] 2 (λn=>.fn (.func 345) [] [.ptr (n+1) 0,.ptr n 0]) (λn=>[(n+1,.cells [aF t] true),(n,.cells [bC l] true)]):=by
 refine Pk.of_v aA T0 Tryz.func272 rfl rfl (by simp[aK,aC,aY]) ?_;repeat' ((conv=>whnf);first|exact kQ|(refine bk ?_ ?_<;>intro _<;>try(exfalso;omega))|refine stq ?_)
 all_goals(conv=>whnf)
 exact⟨[0,1],rfl,⟨by simp,λn=>.fn .nil (.cons (.ptr (by simp[sgn])) (.cons (.ptr (by simp[sgn])) .nil)),λn=>.cons (id:=1) (by simp[sgn]) rfl rfl (.cells (.cons (.same (aC t)) .nil) rfl) (.cons (id:=0) (by simp[sgn]) rfl rfl (.cells (.cons (.same (aY l)) .nil) rfl) .nil)⟩⟩
theorem Runs_c {l:List Spn}{t:List Int}(hl:l.length<=1000) (ht:t.length<=100000):Pu Tryz.prog 183 [bC l,aF t] (bD (mj (fG l) t)):=by
 refine pv Tryz.func183 ?_;repeat' ((conv=>whnf);first|exact kQ|(refine bk ?_ ?_<;>intro _<;>try(exfalso;omega))|refine stq ?_|refine cp (qC hl) ?_|refine Cll.pk yV ?_|refine Cll.give (.cons (.fn .nil (.cons (.frzp rfl rfl (.cons (.same (aC t)) .nil)) (.cons (.frzp rfl rfl (.cons (.same (aY _)) .nil)) .nil))) .nil) (G8 (qB hl) (tY l).rise ht) ?_|fail)
 all_goals(conv=>whnf)
 exact aE.same (aV _) rfl
theorem qS {l:List Spn}{t:List Int}:mj l t=[]↔∀ c∈t,aJ l c=0:=by
 have h1:∀ (t:List Int) (i:Nat) (s:Int),0<=s->rnF (aJ l) i s t≠[]:=λt=>by
  induction t with
  | nil=>intro i s hs;simp[rnF,hs]
  | cons c t ih=>
   intro i s hs;simp only[rnF,if_pos hs];split
   ·simp
   ·exact ih _ _ hs
 have h2:∀ (t:List Int) (i:Nat),rnF (aJ l) i (-1) t=[]↔∀ c∈t,aJ l c=0:=λt=>by
  induction t with
  | nil=>intro i;simp[rnF]
  | cons c t ih=>
   intro i;simp only[rnF,show ¬(0:Int)<=-1 from by omega,if_false];split
   ·rename_i hc;rw[ih];simp[hc]
   ·rename_i hc;exact⟨λh=>absurd h (h1 _ _ _ om),λh=>absurd (h c si) hc⟩
 exact h2 t 0
end
section
abbrev fe (l:List Int):Array Value:=(l.map λk=>Value.int .i64 k).toArray
theorem ld {P:Program}{d:Nat}{e:TypeId}{k:IntKind}(he:P.underlying e=some (.int k)):∀ (us ws xs ys:List Int) (i:Nat),xs.drop i=us->ys.drop i=ws->us.length=ws.length ->
  av P (Op.eqItems (d+1) e 1 (fe xs) (fe ys) (List.range' i us.length))=some (decide (us=ws))
 | [],[],_,_,_,_,_,_=>rfl
 | [],_::_,_,_,_,_,_,h=>by simp at h
 | _::_,[],_,_,_,_,_,h=>by simp at h
 | a::us,b::ws,xs,ys,i,hx,hy,hl=>by
  have gx:xs[i]?=some a:=by have:=congrArg (·[0]?) hx;simpa using this
  have gy:ys[i]?=some b:=by have:=congrArg (·[0]?) hy;simpa using this
  have ih:=ld (d:=d) he us ws xs ys (i+1) (by rw[<-List.drop_drop,hx];rfl) (by rw[<-List.drop_drop,hy];rfl) (by simpa using hl);have e1:av P (part e (fe xs) (i*1))=some (.int .i64 a):=jJ he (by simp[fe,gx]);have e2:av P (part e (fe ys) (i*1))=some (.int .i64 b):=jJ he (by simp[fe,gy]);simp only[kO,List.range'_succ,Op.eqItems,bX,e1,e2,Option.bind_some,kV he];by_cases h:a=b
  ·subst h;simp[ih]
  ·simp[h,cS]
theorem oe {P:Program}{d:Nat}{t e:TypeId}{n:Nat}{k:IntKind}(h:P.underlying t=some (.array n e)) (he:P.underlying e=some (.int k)) (hs:av P (sizeOf e)=some 1) (us ws:List Int) (ha:us.length=n) (hb:ws.length=n) :
  av P (Op.equalIn (d+2) t (.agg (fe us)) (.agg (fe ws)))=some (decide (us=ws)):=by
 have key:∀ is:List Nat,av P (do
   let r <-forIn is ((none,()):Option Bool×Unit) λj r=>do
    if(!(<-Op.equalIn (d+1) e (<-part e (fe us) (j*1)) (<-part e (fe ws) (j*1))))=true then pure (ForInStep.done (some false,())) else pure (ForInStep.yield (none,()))
   match r.fst with|some a=>pure a|none=>pure true)=av P (Op.eqItems (d+1) e 1 (fe us) (fe ws) is):=by
  intro is
  induction is with
  | nil=>rfl
  | cons j is ih=>
   simp only[List.forIn_cons,Op.eqItems,bX] at ih ⊢;cases av P (part e (fe us) (j*1)) with
   | none=>rfl
   | some x=>
    simp only[Option.bind_some];cases av P (part e (fe ws) (j*1)) with
    | none=>rfl
    | some y=>
     simp only[Option.bind_some];cases av P (Op.equalIn (d+1) e x y) with
     | none=>rfl
     | some r=>
      cases r with
      | false=>simp[cS]
      | true=>
       simp only[Option.bind_some,Bool.not_true,Bool.false_eq_true,if_false,cS];exact ih
 have hi:=ld (d:=d) he us ws us ws 0 rfl rfl om;rw[<-key,ha] at hi;rw[Op.equalIn];simp only[bX,dW h,Option.bind_some,hs,Std.Legacy.Range.forIn_eq_forIn_range',Std.Legacy.Range.size,Nat.sub_zero,Nat.add_one_sub_one,Nat.div_one];simp only[bX] at hi;refine Eq.trans (_root_.congr (congrArg Option.bind ?_) ?_) hi
 ·rfl
 ·funext a;cases a.fst<;>rfl
theorem cu {c:Int}:Pu Tryz.prog 182 [i64 c] (i64 (hk c)):=by
 refine pv Tryz.func182 ?_;repeat' ((conv=>whnf);first|exact kQ|(refine bk ?_ ?_<;>intro _<;>try(exfalso;omega))|refine stq ?_)
 all_goals(conv=>whnf)
 all_goals first
  | (have:=aj c;exact aE.int om)
  | (have:=aj c;have h0:(c-44032).tmod 28=(c-44032) % 28:=Int.tmod_eq_emod_of_nonneg om
     exact aE.int om)
end
section
theorem np:∀ l:List Int,f8 (l.map i64)=some (l.map λk=>Value.int .i64 k)
 | []=>rfl
 | k::l=>by simp only[List.map_cons,f8,ru,np l]
theorem E2 {P:Program}{t e:TypeId}{n:Nat}{k:IntKind}{ox oy:Operand}(h:P.underlying t=some (.array n e)) (he:P.underlying e=some (.int k)) (hs:av P (sizeOf e)=some 1) (hg:P.eqGuardType P.depth t=false) (us ws:List Int) (ha:us.length=n) (hb:ws.length=n) :
  ba P .eql t ox oy (.agg (us.map i64)) (.agg (ws.map i64))=some (boo (decide (us=ws))):=by
 have e1:av P (do eqGuard .eql t ox oy (.agg (fe us)) (.agg (fe ws));binOp .eql t (.agg (fe us)) (.agg (fe ws)))=some (.bool (decide (us=ws))):=by
  have e2:av P (Op.equalIn 10000 t (.agg (fe us)) (.agg (fe ws)))=some (decide (us=ws)):=oe (d:=9998) h he hs us ws ha hb;simp[eqGuard,binOp,bX,dq,hg,Op.equal,Op.maxDepth,e2,cS,nz]
 have e3:ba P .eql t ox oy (.agg (us.map i64)) (.agg (ws.map i64))=(match toV (.agg (us.map i64)),toV (.agg (ws.map i64)) with
  | some a,some b=>(match av P (do eqGuard .eql t ox oy a b;binOp .eql t a b) with|some r=>ofV r|none=>none)
  | _,_=>none):=rfl
 rw[e3];simp only[toV,np,kF];rw[e1];rfl
theorem eq3 {us ws:List Int}{ox oy:Operand}(ha:us.length=3) (hb:ws.length=3):ba Tryz.prog .eql 242 ox oy (.agg (us.map i64)) (.agg (ws.map i64))=some (boo (decide (us=ws))):=
 E2 (k:=.i64) rfl rfl (by kernel_rfl) (by kernel_rfl) us ws ha hb
def yu (c:Int):List Int:=if 4<=hk c then [4352+(c-44032) / 28 / 21,4449+(c-44032) / 28 % 21,if(c-44032) % 28=0 then 0 else 4519+(c-44032) % 28] else [0,0,0]
theorem tdm {a b:Int}(h:0<=a):a.tdiv b=a / b∧a.tmod b=a % b:=⟨Int.tdiv_eq_ediv_of_nonneg h,Int.tmod_eq_emod_of_nonneg h⟩
theorem DX {c:Int}:Pu Tryz.prog 397 [i64 c] (.agg ((yu c).map i64)):=by
 refine pv Tryz.func397 ?_;have hh:=aj c;by_cases h4:hk c<4
 ·repeat' ((conv=>whnf);first|exact kQ|(refine bk ?_ ?_<;>intro _<;>try(exfalso;omega))|refine stq ?_|refine cp cu ?_|fail)
  all_goals(conv=>whnf)
  all_goals first
   | exact aE.same rfl (by unfold yu;rw[if_neg om];rfl)
 ·have hb:44032<=c∧c<=55203:=by omega
  have w1:IntKind.i64.wrap ((c-44032).tdiv 28)=(c-44032) / 28:=by
   rw[(tdm om).1];simp[IntKind.wrap,IntKind.bits,IntKind.signed];omega
  have w2:IntKind.i64.wrap (((c-44032) / 28).tdiv 21)=(c-44032) / 28 / 21:=by
   rw[(tdm om).1];simp[IntKind.wrap,IntKind.bits,IntKind.signed];omega
  have m1:((c-44032) / 28).tmod 21=(c-44032) / 28 % 21:=(tdm om).2;have m2:(c-44032).tmod 28=(c-44032) % 28:=(tdm om).2;repeat' ((conv=>whnf);first|exact kQ|(refine bk ?_ ?_<;>intro _<;>try(exfalso;omega))|refine stq ?_|refine cp cu ?_|refine cA.lit ?_|refine Chk.mk (fg (by simp only[w1,w2,m1];omega) (by simp only[w1,w2,m1];omega)) ?_|fail)
  all_goals(conv=>whnf)
  all_goals first
   | (rw[show yu c=[4352+(c-44032) / 28 / 21,4449+(c-44032) / 28 % 21,4519+(c-44032) % 28] by unfold yu;rw[if_pos om,if_neg (by simp only[m2] at *;omega)]]
      exact⟨.agg (.cons (Rd.int (by rw[w1,w2])) (.cons (Rd.int (by rw[w1,m1])) (.cons (Rd.int (by rw[m2];omega)) .nil)))⟩)
   | (rw[show yu c=[4352+(c-44032) / 28 / 21,4449+(c-44032) / 28 % 21,0] by unfold yu;rw[if_pos om,if_pos (by simp only[m2] at *;omega)]]
      exact⟨.agg (.cons (Rd.int (by rw[w1,w2])) (.cons (Rd.int (by rw[w1,m1])) (.cons (Rd.int rfl) .nil)))⟩)
theorem eq3_no {a b d:Int}(h:a≠0){ox oy:Operand}:ba Tryz.prog .eql 242 ox oy (.agg [i64 a,i64 b,i64 d]) (.agg [i64 0,i64 0,i64 0])=some (boo false):=by
 have:=eq3 (us:=[a,b,d]) (ws:=[0,0,0]) (ox:=ox) (oy:=oy) rfl rfl
 rw[decide_eq_false (λe=>h (by injection e))] at this;exact this
theorem AQ {ox oy:Operand}:ba Tryz.prog .eql 242 ox oy (.agg [i64 0,i64 0,i64 0]) (.agg [i64 0,i64 0,i64 0])=some (boo true):=by
 have:=eq3 (us:=[0,0,0]) (ws:=[0,0,0]) (ox:=ox) (oy:=oy) rfl rfl
 rw[decide_eq_true rfl] at this;exact this
theorem hDec_c {c:Int}:Pu Tryz.prog 363 [i64 c] (aF (hd c)):=by
 refine pv Tryz.func363 ?_;have hp:=DX (c:=c);have hh:=aj c;unfold yu at hp;by_cases h4:4<=hk c
 ·rw[if_pos h4] at hp;have hb:44032<=c∧c<=55203:=by omega
  have e3:=λox oy=>eq3_no (a:=4352+(c-44032) / 28 / 21) (b:=4449+(c-44032) / 28 % 21) (d:=if(c-44032) % 28=0 then 0 else 4519+(c-44032) % 28) om (ox:=ox) (oy:=oy)
  by_cases hz:(c-44032) % 28=0
  ·rw[if_pos hz] at hp e3;repeat' ((conv=>whnf);first|exact kQ|(refine bk ?_ ?_<;>intro _<;>try(exfalso;omega))|refine stq ?_|refine cp hp ?_|(split<;>rename_i heq<;>first|(obtain rfl:=Option.some.inj ((e3 _ _).symm.trans heq))|exact absurd ((e3 _ _).symm.trans heq) si)|refine cA.lit ?_|fail)
   all_goals(conv=>whnf)
   all_goals first
    | exact aE.frz1 rfl (by unfold hd;rw[if_pos h4,if_pos hz];rfl) (by unfold hd;rw[if_pos h4,if_pos hz];rfl) (λ_=>rfl) rfl
  ·rw[if_neg hz] at hp e3;repeat' ((conv=>whnf);first|exact kQ|(refine bk ?_ ?_<;>intro _<;>try(exfalso;omega))|refine stq ?_|refine cp hp ?_|(split<;>rename_i heq<;>first|(obtain rfl:=Option.some.inj ((e3 _ _).symm.trans heq))|exact absurd ((e3 _ _).symm.trans heq) si)|refine cA.lit ?_|fail)
   all_goals(conv=>whnf)
   all_goals first
    | exact aE.frz1 rfl (by unfold hd;rw[if_pos h4,if_neg hz];rfl) (by unfold hd;rw[if_pos h4,if_neg hz];rfl) (λ_=>rfl) rfl
 ·rw[if_neg h4] at hp;repeat' ((conv=>whnf);first|exact kQ|(refine bk ?_ ?_<;>intro _<;>try(exfalso;omega))|refine stq ?_|refine cp hp ?_|(split<;>rename_i heq<;>first|(obtain rfl:=Option.some.inj (AQ.symm.trans heq))|exact absurd (AQ.symm.trans heq) si)|fail)
  all_goals(conv=>whnf)
  all_goals first
   | exact aE.frz1 rfl (by unfold hd;rw[if_neg h4];rfl) (by unfold hd;rw[if_neg h4];rfl) (λ_=>rfl) rfl
end
end Go.Proofs.YtihggclfifimoaaGreatDoor
