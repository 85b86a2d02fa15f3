/-
  Contracts of functions over data: layer 33 (the program): the property and the table of a kind, boundaries and ranges of a text.
-/
import Derived.Test.YtlimkdlhldlolaaGreatDoorL0
import Derived.Test.YtlimkdlhldlolaaGreatDoorHI
import Derived.Test.YtlimkdlhldlolaaGreatDoorV0
set_option linter.unusedSectionVars false
namespace Go.Proofs.YtlimkdlhldlolaaGreatDoor
open Go Go.Am
set_option maxRecDepth 1000000
section
open Classical
noncomputable instance gtI:GT:=gtR
theorem yO {d:Db}{k:Nat}{t:Tbl}(hk:k=1\/k=2\/k=3\/k=4) (hl:∀ k,k<7->(prop d k).names.length<=30/\(prop d k).spans.length<=16) (he:@Pu gtR Tryz.prog 51 [dbD d] (i64 0)) (hT:@Pu gtR Tryz.prog 54 [i64 (k:Int)] (gQ t)):@Pu gtR Tryz.prog 117 [dbD d,i64 (k:Int)] (.tup [bY (prop d (k+2)),gQ t,i64 0]):=by
 letI:=gtR;have hp:∀ j:Nat,j<7->Pu Tryz.prog 52 [dbD d,i64 (j:Int)] (bY (prop d j)):=pw hl;have hp3:Pu Tryz.prog 52 [dbD d,i64 3] (bY (prop d 3)):=hp 3 om;have hp4:Pu Tryz.prog 52 [dbD d,i64 4] (bY (prop d 4)):=hp 4 om;have hp5:Pu Tryz.prog 52 [dbD d,i64 5] (bY (prop d 5)):=hp 5 om;have hp6:Pu Tryz.prog 52 [dbD d,i64 6] (bY (prop d 6)):=hp 6 om;rcases hk with rfl|rfl|rfl|rfl
 all_goals
  refine pv Tryz.func117 ?_;repeat' ((conv=>whnf);first|exact kQ|(refine bk ?_ ?_<;>intro _<;>try exact exo)|refine stq ?_|refine cp he ?_|refine cp hp3 ?_|refine cp hp4 ?_|refine cp hp5 ?_|refine cp hp6 ?_|refine cp hT ?_|fail)
  (conv=>whnf)
  exact⟨Rd.eqd rfl (by simp[aK,aF,aM,aX,ah,kY])⟩
structure Good (d:Db):Prop where
 ok:d.ok
 sm:SmD d
 va:DbV d
theorem Good.chk {d:Db}(h:Good d):@Pu gtR Tryz.prog 51 [dbD d] (i64 0):=by
 obtain⟨e,he,hi⟩:=@lU gtR d h.ok h.sm;obtain rfl:=hi.2 h.va;exact he
theorem Good.data {d:Db}(h:Good d){k:Nat}{t:Tbl}(hk:k=1\/k=2\/k=3\/k=4) (hT:@Pu gtR Tryz.prog 54 [i64 (k:Int)] (gQ t)):@Pu gtR Tryz.prog 117 [dbD d,i64 (k:Int)] (.tup [bY (prop d (k+2)),gQ t,i64 0]):=yO hk (λk hk=>h.sm.2.1 k hk) h.chk hT
theorem yZ {d:Db}{k:Int}{p:Prp}{t:Tbl}{text:List Int}{l:List Rng}(hd:@Pu gtR Tryz.prog 117 [dbD d,i64 k] (.tup [bY p,gQ t,i64 0])) (hb:@Pu gtR Tryz.prog 118 [bY p,gQ t,aC text] (ax l)):@Pu gtR Tryz.prog 85 [dbD d,i64 k,aC text] (.tup [ax l,i64 0]):=by
 letI:=gtR;refine pv Tryz.func85 ?_;repeat' ((conv=>whnf);first|exact kQ|(refine bk ?_ ?_<;>intro _<;>try exact exo)|refine stq ?_|refine cp hd ?_|refine cp hb ?_|fail)
 (conv=>whnf)
 exact⟨Rd.eqd rfl (by simp[aK,aF,ak])⟩
theorem Good.prt {d:Db}(h:Good d){k:Nat}{t:Tbl}{text:List Int}(hk:k=1\/k=2\/k=3\/k=4) (ht:t.ok) (hT:@Pu gtR Tryz.prog 54 [i64 (k:Int)] (gQ t)) (hx:text.length<=1000):@Pu gtR Tryz.prog 85 [dbD d,i64 (k:Int),aC text] (.tup [ax (qY (prop d (k+2)) t text),i64 0]):=by
 letI:=gtR;have hs:=h.sm.2.1 (k+2) om;exact yZ (h.data hk hT) (JA (h.ok.prop (k+2)) ht om om hx)
theorem Hk {p:Prp}{t:Tbl}{text:List Int}(hv:TV t):Chn 0 (qY p t text) text.length:=by
 have hA:(cn p t text).length=text.length+1:=by rw[cn,if_pos hv,cm];simp[aW]
 rw[qY,if_pos hv];exact pz (BX hA)
end
section
open Classical
theorem lv [GT] {h:aA}{fz:Nat->Bool}{σ:Nat->Option Nat}{id n cap:Nat}{b:List Int}{cs:List D}{ex bx:Bool}(hf:fz id=true) (hg:h.get id=some (.cells cs bx)) (ec:cs=b.map i64) (e:n=b.length):Rd h fz σ (.sl id 0 n cap 1 ex) (aC b):=by
 subst e;subst ec;refine .frz hf hg si (.eqs ?_ (aU (λ_=>rfl) _));rw[List.drop_zero,kE si]
theorem gD:∀ {P:List Rng}{s e:Int},Chn s P e->(P.length:Int)<=e-s
 | [],s,e,h=>by rw[show s=e from h];simp
 | r::P,s,e,h=>by have:=gD h.2.2;have:=h.2.1;have:=h.1;simp only[kO];omega
theorem EB [GT] {n m:Nat}{l:List (Nat×Box)}(hn:Nat.ble n m=true):Sub ⟨n,l⟩ ⟨m,l⟩:=⟨kD hn,λ_ _ h=>h⟩
abbrev pce (text:List Int) (lo hi:Int):List Int:=(text.drop lo.toNat).take (hi-lo).toNat
end
section
abbrev fG:D:=.agg [strs cl1,aC (rs1.map (·.act)),bN LN1,bN LM1,bN RN1,bN RM1]
noncomputable def ui (g:FuncId) (ds:List D):Option D:=
 if Nat.beq g 79=true then(if nW ds [fG]=true then some (boo true) else none) else spC g ds
open Classical in
theorem valid1:@Pu gtR Tryz.prog 79 [fG] (boo true):=by
 letI:=gtR;have h:=lA (t:=t1) tv1.2;rw[decide_eq_true tv1.1,t1,<-sw] at h;exact h
theorem jJ:@mg gtR Tryz.prog ui:=λg ds d h=>by
 letI:=gtR;unfold ui at h;split at h
 .rename_i hg;obtain rfl:=Nat.eq_of_beq_eq_true hg;split at h
  .rename_i he;injection h with h;subst h
   rw[e9 _ _ he];exact valid1
  .cases h
 .exact eZ g ds d h
end
section
open Classical
noncomputable abbrev gP (d:Db) (text:List Int):List Rng:=qY (prop d 3) t1 text
theorem Good.p1 {d:Db}(h:Good d){text:List Int}(hx:text.length<=1000):@Pu gtR Tryz.prog 85 [dbD d,i64 1,aC text] (.tup [ax (gP d text),i64 0]):=h.prt (k:=1) (.inl rfl) tv1.2 JO hx
theorem rL (d:Db) (text:List Int):Chn 0 (gP d text) text.length:=Hk tv1.1
end
section
open Classical
def jq (e:Int) (b:List Int):List Int:=b.filter λx=>decide (x<e)
theorem rx {b:List Int}{e:Int}(h:∀ a∈b,e<=a):jq e b=[]:=List.filter_eq_nil_iff.2 λa ha=>by have:=h a ha;simpa using this
theorem DW {x e:Int}{b:List Int}(h:x<e):jq e (x::b)=x::jq e b:=List.filter_cons_of_pos (by simpa using h)
theorem DX (e:Int) (a b:List Int):jq e (a++b)=jq e a++jq e b:=List.filter_append ..
theorem vo:∀ (b:List Int) (s e:Int),btw s (b++[e]++[e])=btw s (b++[e])
 | [],s,e=>by
  by_cases h:s<e
  .simp[btw,h]
  .simp[btw,h]
 | x::b,s,e=>by
  simp only[List.cons_append];by_cases h:s<x
  .rw[cJ h,cJ h,vo b x e]
  .rw[dW h,dW h,vo b s e]
theorem lS (l:List Int) (k:Nat):ends l (k+1)=ends l k++(if l.getD k 0≠1 then [(k:Int)] else []):=by
 unfold ends;rw[List.range_succ,List.filter_append,List.map_append];by_cases h:l.getD k 0=1
 .have e:decide (l.getD k 0≠1)=false:=decide_eq_false λhn=>hn h
  rw[if_neg λhn=>hn h];simp only[List.filter,e,List.map_nil]
 .have e:decide (l.getD k 0≠1)=true:=decide_eq_true h;rw[if_pos h];simp only[List.filter,e,List.map_cons,List.map_nil]
theorem Ih (l:List Int) (k:Nat):∀ a∈ends l k,a<(k:Int):=λa ha=>by
 simp only[ends,List.mem_map,List.mem_filter,List.mem_range] at ha;obtain⟨i,⟨h1,_⟩,rfl⟩:=ha;omega
theorem pA (l:List Int) (k:Nat):∀ j,jq k (ends l (k+j))=ends l k
 | 0=>List.filter_eq_self.2 λa ha=>by simpa using Ih l k a ha
 | j+1=>by
  rw[<-Nat.add_assoc,lS,DX,pA l k j];split
  .rw[rx (by simp;omega),List.append_nil]
  .simp[jq]
theorem ra {l m:List Int}:∀ {k:Nat},(∀ i,i<k->l.getD i 0=m.getD i 0)->ends l k=ends m k
 | 0,_=>rfl
 | k+1,h=>by rw[lS,lS,ra λi hi=>h i om,h k om]
theorem yl {t:Tbl}{l:List Int}{k:Nat}(h:k<=l.length):(acts t l).getD k 0=Bw t l k:=by
 rw[aH (by rw[cm];omega)];simp[acts]
theorem wX (N:List (List Int)) (l:List Int) (n:Nat):∀ k,k<=n->stL N (l.take n) k=stL N l k
 | 0,_=>rfl
 | k+1,h=>by
  simp only[stL];rw[wX N l n k om];congr 1;simp only[List.getD];rw[List.getElem?_take_of_lt om]
theorem one_B:(List.range cl1.length).all (λc=>Nat.ble (DO RN1 c).length 1)=true:=by kernel_rfl
theorem one_at {c x y:Nat}(hc:c<cl1.length) (hx:x∈DO RN1 c) (hy:y∈DO RN1 c):x=y:=by
 have h:=kD (List.all_eq_true.1 one_B c (List.mem_range.2 hc))
 match e:DO RN1 c with
 | []=>rw[e] at hx;cases hx
 | [a]=>rw[e] at hx hy;simp at hx hy;omega
 | _::_::_=>rw[e] at h;simp at h
theorem GZ {l:List Int}(hc:CL l cl1.length){n k:Nat}(hn:n<=l.length) (hk:k<n):Bw t1 (l.take n) k=Bw t1 l k:=by
 letI:=gtR;have hlen:(l.take n).length=n:=by rw[List.length_take];omega
 have hc2:CL (l.take n) cl1.length:=λi h=>by rw[List.getElem_take];exact hc i om
 obtain⟨c,e⟩:∃ c:Nat,l[k]'(by omega)=(c:Int):=⟨(l[k]'(by omega)).toNat,by have:=hc k om;omega⟩;have hcl:c<cl1.length:=by have:=(hc k om).2;omega
 obtain⟨x,m1,e1⟩:=tG tv1.1 hc (by omega:k<l.length) e;obtain⟨y,m2,e2⟩:=tG tv1.1 hc2 (by omega:k<(l.take n).length) (by rw[List.getElem_take];exact e);have:=one_at hcl m1 m2
 subst this;unfold Bw;rw[wX _ _ _ _ om];rw[t1];rw[e1,e2]
end
end Go.Proofs.YtlimkdlhldlolaaGreatDoor
