/-
  Contracts over data: the table of a collation: classes, implicit elements, entries found.
-/
import Derived.Test.YticpeeooobajgaaGreatDoorI8
set_option linter.unusedSectionVars false
namespace Go.Proofs.YticpeeooobajgaaGreatDoor
section
open Go Go.Am Classical
set_option maxRecDepth 100000
set_option linter.unusedVariables false
theorem xIB.rdX {p:Prop}(h:p:=by first|exact Rd.same (bO _)|exact Rd.same (bN _)|exact Rd.same (aO _)|exact Rd.frzp rfl rfl (Rds.cons (Rd.same (oz (gJ _ _ _ _))) Rds.nil)|exact Rd.frzp rfl rfl (Rds.cons (Rd.same rfl) Rds.nil)|exact Rd.nil|exact Rd.tup (.cons (.same (cS _)) (.cons (.same rfl) .nil))|exact Rd.tup (.cons (.same rfl) (.cons (.same rfl) .nil))|exact Rd.int (by first|(rw[hts];omega;done)|fail)|exact Rd.frz rfl rfl (kD rfl) (.cons (Rd.int (by first|(rw[w1];done)|fail)) (.cons (.same rfl) (.cons (.same rfl) (.cons (.same rfl) (.cons (Rd.int (by first|(rw[m1];done)|fail)) (.cons (.same rfl) (.cons (.same rfl) (.cons (.same rfl) .nil))))))))|fail):p:=h
theorem xIB.rbX {p:Prop}(h:p:=by first|exact Rb.map (Res.same (vU _))|fail):p:=h
open xIB
theorem ax.dr {P:Program}{nb id:Nat}{ops:Array Oper}{y:Code}{Q:Exit->St->Prop}{s:St}(h:ab P nb id ops (gE (ax P nb y Q) Q) s):ax P nb (.seq (.region id ops true) y) Q s:=⟨.seq (h.run.mono λe s1 q=>by
 cases e with
 | normal=>exact q.run
 | _=>exact q)⟩
abbrev zd (c:Col) (lg:Nat) (M:List (List Int×List Elm)) (cl:List Spn) (tp:Int):List (Nat×Box):=[(0,.cells (fB c 1 lg cl tp) true),(1,.map (d5 M))]
def uu (l:List Spn):Int:=l.foldl (λa s=>max a s.val) 0
theorem xu {l:List Spn}{k:Nat}(h:k<l.length):uu (l.take (k+1))=max (uu (l.take k)) l[k].val:=by unfold uu;rw[ao h,List.foldl_append];rfl
set_option maxHeartbeats 4000000 in
theorem with_c {c:Col}{lg:Nat}{M:List (List Int×List Elm)}{n n':Nm}(hN:i5 n n') :
  AC1 Tryz.prog 149 [.ptr 0 0,nmD n] ⟨2,zd c lg M [] 0⟩ (.ptr 0 0) ⟨2,zd c lg M n'.cl (uu n'.cl)⟩:=by
 obtain⟨e,h1,h2,h3⟩:=hN.ck;have hcl:=hN.ok.cl;refine AC1.of_vf aA T0 Tryz.func149 rfl rfl ?_;by_cases he:e=0
 ·have hn:=h2 he;subst hn;repeat' ((conv=>whnf);first|exact kQ|(refine bk ?_ ?_<;>intro _<;>try(exfalso;omega))|refine stq ?_|refine cp h1 ?_|fail)
  refine aH.by aA T0 (λk:Nat=>⟨tmp 36 [(0,.ptr 0 0),(18,cB n'.cl),(19,i64 n'.cl.length),(20,i64 (k:Int))],⟨2,zd c lg M n'.cl (uu (n'.cl.take k))⟩⟩) (λk=>k<=n'.cl.length) (λk=>n'.cl.length-k) 0 om ?_ ?_
  ·exact lq0
  intro k h4;by_cases hk:k<n'.cl.length
  ·have hts:=xu hk;repeat' ((conv=>whnf);first|exact kQ|(refine bk ?_ ?_<;>intro _<;>try(exfalso;omega))|refine stq ?_|refine ab.by (id:=6) aA T0 [0,0,2,6,14,0,32,126,255,511,1023] (by kernel_rfl) ?_|fail)
   all_goals(conv=>whnf)
   all_goals
    refine⟨k+1,by omega,by omega,?_⟩;exact lq0
  ·rw[kE om];repeat' ((conv=>whnf);first|exact kQ|(refine bk ?_ ?_<;>intro _<;>try(exfalso;omega))|refine stq ?_|fail)
   all_goals(conv=>whnf)
   refine⟨Or.inr rfl,_,rfl,?_⟩;exact lq0
 ·have hn:=h3 he;subst hn;repeat' ((conv=>whnf);first|refine bk (λh=>absurd h si) (λ_=>?_)|exact kQ|(refine bk ?_ ?_<;>intro _<;>try(exfalso;omega))|refine stq ?_|refine cp h1 ?_|refine aH.times aA T0 1 ?_|fail)
  all_goals(conv=>whnf)
  refine⟨Or.inr rfl,_,rfl,?_⟩;exact lq0
abbrev xv (c:Col) (lg:Nat) (cl:List Spn) (tp:Int):List D:=[r7 c.es,pE c.gs,i64 c.b,i64 c.s,i64 c.t,.any,i64 lg,cB cl,i64 tp]
theorem gJ (c:Col) (lg:Nat) (cl:List Spn) (tp:Int):aJ (xv c lg cl tp)=true:=
 aQ (bO _) (aQ (bN _) (aQ rfl (aQ rfl (aQ rfl (aQ rfl (aQ rfl (aQ (aO _) rfl)))))))
theorem BM {c:Col}{lg:Nat}{cl:List Spn}{tp x:Int}{k:Nat}(hk:k<cl.length):Pu Tryz.prog 320 ([i64 (k:Int)]++[.iptr [.iptr (xv c lg cl tp)],.iptr [i64 x]]) (boo (decide (x<=cl[k].hi))):=by
 refine Pu.of_v aA T0 Tryz.func320 rfl rfl (aQ rfl (aQ (oz (aQ (oz (gJ _ _ _ _)) rfl)) rfl)) ?_;repeat' ((conv=>whnf);first|exact kQ|(refine bk ?_ ?_<;>intro _<;>try(exfalso;omega))|refine stq ?_|refine ab.by (id:=1) aA T0 [0,1,3,7,0,31,63,127,0,511,1023] (by kernel_rfl) ?_|fail)
 all_goals(conv=>whnf)
 all_goals first
  | exact aI.yes om
  | exact aI.no om
set_option maxHeartbeats 4000000 in
theorem zc {c:Col}{lg:Nat}{cl:List Spn}{tp x:Int}(hn:cl.length<=1000) (hr:ic cl):Pu Tryz.prog 261 [.iptr (xv c lg cl tp),i64 x] (i64 (aK cl x)):=by
 rw[pF hr x];have h0:=pH cl x
 have hse:Pu Tryz.prog 201 [i64 cl.length,.fn (.func 320) [] [.iptr [.iptr (xv c lg cl tp)],.iptr [i64 x]]] (i64 (ah cl x)):=
  zu (p:=λi=>∃ h:i<cl.length,x<=cl[i].hi) (aQ (oz (aQ (oz (gJ _ _ _ _)) rfl)) rfl) om h0 (λi hi ⟨h,hc⟩=>fJ h hi hc)
   (λi h1 h2=>⟨h2,by
    have h3:=kz (l:=cl) (c:=x) om;have h4:=rW hr (i-ah cl x) (i:=ah cl x) om om;have e:ah cl x+(i-ah cl x)=i:=by omega
    simp only[e] at h4
    omega⟩)
   (λi hi=>by
    have:=BM (c:=c) (lg:=lg) (tp:=tp) (cl:=cl) (x:=x) hi
    exact(congrArg (λb=>Pu Tryz.prog _ _ (boo b)) (decide_eq_decide.2 ⟨λh=>⟨hi,h⟩,λ⟨_,h⟩=>h⟩)).mp this)
 refine Pu.of_v aA T0 Tryz.func261 rfl rfl (aQ (oz (gJ _ _ _ _)) rfl) ?_;repeat' ((conv=>whnf);first|refine ax.weak (x:=Code.seq (Code.region 1 _ false) _) aA T0 (s0:=⟨tmp 40 [(2,.iptr [.iptr (xv c lg cl tp)]),(3,.iptr [i64 x])],⟨0,[]⟩⟩) ?_ ?_|exact kQ|(refine bk ?_ ?_<;>intro _<;>try(exfalso;omega))|refine stq ?_|refine ab.by (id:=2) aA T0 [0,0,2,6,14,30,63,127,255,511,1023,2047,255,8191,16383,32767,255,131071,262143] (by kernel_rfl) ?_|refine cp hse ?_|fail)
 ·exact lq [] [0,1]
 all_goals(conv=>whnf)
 all_goals first
  | exact aI.int (by rw[dif_pos om,if_pos asm])
  | exact aI.int (by rw[dif_pos om,if_neg asm])
  | exact aI.int (by rw[dif_neg om])
def qI (c:Col) (x:Int):List Elm:=if 0<=x∧x<=1114111 then [⟨c.b+x / 32768,c.s,c.t,false⟩,⟨32768+x % 32768,0,0,false⟩] else []
set_option maxHeartbeats 4000000 in
theorem impl_c {c:Col}{lg:Nat}{M:List (List Int×List Elm)}{cl:List Spn}{tp x:Int}(hb:1<=c.b∧c.b<=65502) :
  AC1 Tryz.prog 260 [.ptr 0 0,i64 x] ⟨2,zd c lg M cl tp⟩ (elms (qI c x)) ⟨2,zd c lg M cl tp⟩:=by
 refine AC1.of_vf aA T0 Tryz.func260 rfl rfl ?_;have hv:=iA (n:=x);by_cases h:0<=x∧x<=1114111
 ·rw[decide_eq_true h] at hv;rw[show qI c x=[⟨c.b+x / 32768,c.s,c.t,false⟩,⟨32768+x % 32768,0,0,false⟩] from if_pos h]
  have w1:IntKind.i64.wrap (x.tdiv 32768)=x / 32768:=by
   rw[(tdm om).1];simp[IntKind.wrap,IntKind.bits,IntKind.signed];omega
  have m1:x.tmod 32768=x % 32768:=(tdm om).2;repeat' ((conv=>whnf);first|exact kQ|(refine bk ?_ ?_<;>intro _<;>try(exfalso;omega))|refine stq ?_|refine cp hv ?_|refine ab.by (id:=3) aA T0 [0,1,3,7,15,0,32,127,0,256,768,1792,3840,0,8192,24576,57344,122880,262143,0,524288,1572864,3670016,8388607,16777215] (by kernel_rfl) ?_|refine Chk.mk (gM (by simp only[w1,m1];omega) (by simp only[w1,m1];omega)) ?_|fail)
  all_goals(conv=>whnf)
  refine⟨Or.inr rfl,_,rfl,?_⟩;exact lq [] [29]
 ·rw[decide_eq_false h] at hv;rw[show qI c x=[] from if_neg h];repeat' ((conv=>whnf);first|exact kQ|(refine bk ?_ ?_<;>intro _<;>try(exfalso;omega))|refine stq ?_|refine cp hv ?_|fail)
  all_goals(conv=>whnf)
  refine⟨Or.inr rfl,_,rfl,?_⟩;exact lq0
def bP (lg:Nat) (M:List (List Int×List Elm)) (l:List Int):Option (List Elm):=if l.length=0∨lg<l.length then none else(lkE l M 0).map (·.2)
def onE (o:Option (List Elm)):D:=match o with|some l=>.tup [elms l,boo true]|none=>.tup [aT,boo false]
abbrev fdH (c:Col) (lg:Nat) (M:List (List Int×List Elm)) (cl:List Spn) (tp:Int) (l:List Int):List (Nat×Box):=[(0,.cells (fB c 1 lg cl tp) true),(1,.map (d5 M)),(2,.cells (l.map i64) false)]
set_option maxHeartbeats 4000000 in
theorem vg {c:Col}{lg:Nat}{M:List (List Int×List Elm)}{cl:List Spn}{tp:Int}{l:List Int}{o k cp:Nat}(hlg:lg<=8) (hM:∀ p∈M,p.1.length<=8) (ho:o+k<=l.length) (hl:l.length<=1000000) :
  AC1 Tryz.prog 259 [.ptr 0 0,.sl 2 o k cp 1 false] ⟨3,fdH c lg M cl tp l⟩ (onE (bP lg M ((l.drop o).take k))) ⟨3,fdH c lg M cl tp l⟩:=by
 refine AC1.of_vf aA T0 Tryz.func259 rfl rfl ?_;have hle:((l.drop o).take k).length=k:=by simp;omega
 by_cases hk:k=0∨lg<k
 ·have e0:bP lg M ((l.drop o).take k)=none:=by unfold bP;rw[hle,if_pos hk]
  rw[e0];repeat' ((conv=>whnf);first|exact kQ|(refine bk ?_ ?_<;>intro _<;>try(exfalso;omega))|refine stq ?_|fail)
  all_goals(conv=>whnf)
  all_goals
   refine⟨Or.inr rfl,_,rfl,?_⟩;exact lq0
 ·have e0:bP lg M ((l.drop o).take k)=(lkE ((l.drop o).take k) M 0).map (·.2):=by unfold bP;rw[hle,if_neg hk]
  rw[e0];have hb:=Ar (l:=l) (o:=o) (k:=k) (cp:=cp) om ho;generalize hs:(l.drop o).take k=s at *;cases hlk:lkE s M 0 with
  | none=>
   repeat' ((conv=>whnf);first|refine ax.dr (id:=3) ?_|exact kQ|(refine bk ?_ ?_<;>intro _<;>try(exfalso;omega))|refine stq ?_|refine ab.byW (id:=3) aA T0 [0,1,3,7,0,16,63,127,255,255,511,2047] (by kernel_rfl) ?_|refine Cll.emb hb [(0,2)] [] (mh s) [(2,.cells (l.map i64) false)] [(0,.cells (fB c 1 lg cl tp) true),(1,.map (d5 M))] rfl aq bxA rdA bxA reA ?_|(refine eV.num9 om hM (λi x hq=>?_) (λhq=>?_)<;>(rw[hlk] at hq;first|(cases hq;done)|skip))|refine Chk.mk ⟨_,rfl⟩ ?_|fail)
   all_goals(conv=>whnf)
   refine⟨Or.inr rfl,_,rfl,?_⟩;exact lq0
  | some q=>
   obtain⟨i,v⟩:=q;repeat' ((conv=>whnf);first|refine ax.dr (id:=3) ?_|exact kQ|(refine bk ?_ ?_<;>intro _<;>try(exfalso;omega))|refine stq ?_|refine ab.byW (id:=3) aA T0 [0,1,3,7,0,16,63,127,255,255,511,2047] (by kernel_rfl) ?_|refine Cll.emb hb [(0,2)] [] (mh s) [(2,.cells (l.map i64) false)] [(0,.cells (fB c 1 lg cl tp) true),(1,.map (d5 M))] rfl aq bxA rdA bxA reA ?_|(refine eV.num9 om hM (λi x hq=>?_) (λhq=>?_)<;>(rw[hlk] at hq;first|(cases hq;done)|(simp only[kA,kB] at hq;obtain⟨rfl,rfl⟩:=hq)))|refine Chk.mk ⟨_,rfl⟩ ?_|fail)
   all_goals(conv=>whnf)
   refine⟨Or.inr rfl,_,rfl,?_⟩;exact lq0
end
section
open Go Go.Am Classical
set_option maxRecDepth 100000
set_option linter.unusedVariables false
section
variable (fd:List Int->Option (List Elm)) (cl:Int->Int) (tp:Int)
def sz1 (s:List Int):Nat->Nat
 | 0=>0
 | k+1=>if(fd (s.take (k+1))).isSome then k+1 else sz1 s k
def mv (s:List Int) (z i:Nat):List Int:=s.take z++(s.getD i 0::((s.drop z).take (i-z)++s.drop (i+1)))
def m2:Nat->Nat->Nat->Int->List Int->Nat×List Int
 | 0,_,z,_,s=>(z,s)
 | f+1,i,z,l,s=>
  if i<s.length∧l<tp then
   (if cl (s.getD i 0)=0 then(z,s) else if cl (s.getD i 0)<=l then m2 f (i+1) z l s else
    match fd (s.take z++[s.getD i 0]) with
    | none=>m2 f (i+1) z (cl (s.getD i 0)) s
    | some _=>m2 f (i+1) (z+1) l (mv s z i))
  else(z,s)
end
theorem AW {s:List Int}{z i:Nat}(hz:z<=i) (hi:i<s.length):(mv s z i).length=s.length:=by
 unfold mv;simp only[kG,List.length_take,kO,List.length_drop];omega
theorem uz (fd:List Int->Option (List Elm)) (s:List Int):∀ k,sz1 fd s k<=k
 | 0=>by simp[sz1]
 | k+1=>by
  simp only[sz1];split
  ·omega
  ·have:=uz fd s k;omega
theorem s5 {fd:List Int->Option (List Elm)}{s:List Int}:∀ {k j:Nat},sz1 fd s k<j->j<=k->fd (s.take j)=none
 | 0,j,h1,h2=>by omega
 | k+1,j,h1,h2=>by
  simp only[sz1] at h1;split at h1
  ·omega
  ·rename_i hn;rcases Nat.lt_or_eq_of_le h2 with h3|h3
   ·exact s5 (k:=k) h1 om
   ·subst h3;cases hf:fd (s.take (k+1)) with
    | none=>rfl
    | some v=>rw[hf] at hn;exact absurd rfl hn
theorem AX {P s:List Int}{o z i:Nat}(hp:P.length=o) (hz:z<i) (hi:i<s.length) :
  (splice ((P++s).map aa) (o+(z+1)*1) ((((P++s).map aa).drop (o+z*1)).take ((i-z)*1))).set (o+z*1) (i64 (s.getD i 0))=(P++mv s z i).map aa:=by
 subst hp;simp only[Nat.mul_one]
 have e1:((P++s).map aa).drop (P.length+z)=(s.drop z).map aa:=by
  rw[<-List.map_drop,List.drop_append,List.drop_of_length_le om,List.nil_append,show P.length+z-P.length=z by omega]
 have e2:((s.drop z).map aa).take (i-z)=((s.drop z).take (i-z)).map aa:=by rw[List.map_take]
 have hlen:(((s.drop z).take (i-z)).map aa).length=i-z:=by simp;omega
 rw[e1,e2];unfold splice;rw[hlen]
 have e3:((P++s).map aa).take (P.length+(z+1))=P.map aa++((s.take z).map aa++[aa (s.getD z 0)]):=by
  rw[<-List.map_take,List.take_append,kE om,show P.length+(z+1)-P.length=z+1 by omega,ao (by omega:z<s.length),List.map_append,List.map_append,gDe om];rfl
 have e4:((P++s).map aa).drop (P.length+(z+1)+(i-z))=(s.drop (i+1)).map aa:=by
  rw[<-List.map_drop,List.drop_append,List.drop_of_length_le om,List.nil_append,show P.length+(z+1)+(i-z)-P.length=i+1 by omega]
 rw[e3,e4];have e5:(P.map aa++((s.take z).map aa++[aa (s.getD z 0)])++((s.drop z).take (i-z)).map aa++(s.drop (i+1)).map aa)=(P.map aa++(s.take z).map aa)++(aa (s.getD z 0)::(((s.drop z).take (i-z)).map aa++(s.drop (i+1)).map aa)):=by simp
 rw[e5,List.set_append_right _ _ (by simp;omega)];rw[show P.length+z-(P.map aa++(s.take z).map aa).length=0 by simp;omega,List.set_cons_zero];unfold mv;simp
end
end Go.Proofs.YticpeeooobajgaaGreatDoor
