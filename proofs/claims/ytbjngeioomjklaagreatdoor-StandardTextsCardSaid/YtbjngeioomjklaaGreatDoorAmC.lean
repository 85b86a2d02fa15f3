/-
  The abstract machine: what Go code does to abstract values, and that it does so in the model. No condition beyond what each theorem says.
-/
import Derived.Test.YtbjngeioomjklaaGreatDoorAmB
import Derived.LoopNIn
import Derived.RangeFuncRecord
import Derived.RecoverIn
/-
  The abstract machine, part 21: code, step by step ('Ex'); a function's contract out of its body.
-/
namespace Go.Am
set_option linter.unusedSectionVars false
variable [GT]
def Le (s s0 : St) : Prop := ∀ c a, Fit c s a → ∃ c0, c0.w = c.w ∧ Fit c0 s0 a ∧ Grow c s.h c0 s0.h ∧ ∀ j, j < s.h.next → c0.φ j = c.φ j
theorem Le.refl (s : St) : Le s s := fun c _ h => ⟨c, rfl, h, Grow.refl _ _, fun _ _ => rfl⟩
theorem Le.trans {s t u : St} (h : Le s t) (k : Le t u) : Le s u := fun c a hf => by
  obtain ⟨c1, e1, f1, g1, p1⟩ := h c a hf
  obtain ⟨c2, e2, f2, g2, p2⟩ := k c1 a f1
  refine ⟨c2, e2.trans e1, f2, g1.trans g2, fun j hj => ?_⟩
  have := g1.next
  rw [p2 j (by omega), p1 j hj]
inductive Job where
  | code (c : Code)
  | rounds (m : Nat) (c : Code)
def blockX (id : Nat) : Exit → Exit
  | .exit i => if i = id then .normal else .exit i
  | e => e
inductive DE where
  | call (g : FuncId) (ds : List D)
  | mark (id : Nat)
  deriving Inhabited
def DR (c : Ctx) : DE → Deferred → Prop
  | .call g ds, d => ∃ args cap : List Value, d = ⟨.fn (.func g) cap.toArray, args.toArray⟩ ∧ VS c ds (args ++ cap)
  | .mark id, d => ∃ b, c.φ id = some (b, 0) ∧ d = ⟨.collected b, #[]⟩
def DRs (c : Ctx) : List DE → List Deferred → Prop
  | [], ds => ds = []
  | x :: l, ds => ∃ d ds', ds = d :: ds' ∧ DR c x d ∧ DRs c l ds'
theorem DR.keep {c c' : Ctx} (k : Keeps c c') : ∀ (x : DE) (d : Deferred), DR c x d → DR c' x d
  | .call _ _, _, h => let ⟨args, cap, h1, h2⟩ := h; ⟨args, cap, h1, VS.keep k _ _ h2⟩
  | .mark _, _, h => let ⟨b, h1, h2⟩ := h; ⟨b, k.φ _ _ h1, h2⟩
theorem DRs.keep {c c' : Ctx} (k : Keeps c c') : ∀ (l : List DE) (ds : List Deferred), DRs c l ds → DRs c' l ds
  | [], _, h => h
  | x :: l, _, h => let ⟨d, ds', h1, h2, h3⟩ := h; ⟨d, ds', h1, DR.keep k x d h2, DRs.keep k l ds' h3⟩
def loopHeap (s : St) (ps : Array Tmp) (assign body : Code) : Heap := (Heap.put (Heap.put ⟨s.h.next + 2, s.h.bs⟩ s.h.next .dfr) (s.h.next + 1) (.loop .ready none s.tmps ps.toList assign body))
inductive Ex (P : Program) (ti : TI) (cl : Cl) (eq : D → D → Bool) (top : Bool) : Job → St → List DE → Exit → St → List DE → Prop
  | skip {s df} : Ex P ti cl eq top (.code .skip) s df .normal s df
  | label {l s df} : Ex P ti cl eq top (.code (.label l)) s df .normal s df
  | region {id ops s s' df} (h : opsRun P ti cl ops ops.toList s = some s') : Ex P ti cl eq top (.code (.region id ops false)) s df .normal s' df
  | draw {id ops s s' df} (hok : drawOk ops = true) (h : drawRun P ti cl eq ops s = some s') : Ex P ti cl eq top (.code (.region id ops true)) s df .normal s' df
  | dfr {id ops s df pre o cc f g first as cap s1} (ht : top = true) (hops : ops.toList = pre ++ [o]) (ho : o.op = .defer cc) (hcal : cc.callee = .value f) (hg : o.guard = none) (h1 : opsRun P ti cl ops pre s = some s1)
      (hf : ev s1.tmps f = some (.fn (.func g) first cap)) (ha : evs s1.tmps cc.args.toList = some as) : Ex P ti cl eq top (.code (.region id ops false)) s df .normal ⟨putD s1.tmps o.dst undefD, s1.h⟩ (.call g (first ++ as ++ cap) :: df)
  | seq {x y s s1 e s' df df1 df'} (h1 : Ex P ti cl eq top (.code x) s df .normal s1 df1) (h2 : Ex P ti cl eq top (.code y) s1 df1 e s' df') : Ex P ti cl eq top (.code (.seq x y)) s df e s' df'
  | seqX {x y s e s1 df df1} (h1 : Ex P ti cl eq top (.code x) s df e s1 df1) (hne : e ≠ .normal) : Ex P ti cl eq top (.code (.seq x y)) s df e s1 df1
  | cond {c t x y s e s' df df'} (hc : ev s.tmps c = some (.v (.bool t))) (h : Ex P ti cl eq top (.code (if t then x else y)) s df e s' df') : Ex P ti cl eq top (.code (.cond c x y)) s df e s' df'
  | block {id c s e s' df df'} (h : Ex P ti cl eq top (.code c) s df e s' df') : Ex P ti cl eq top (.code (.block id c)) s df (blockX id e) s' df'
  | loop {m c s e s' df df'} (h : Ex P ti cl eq top (.rounds m c) s df e s' df') : Ex P ti cl eq top (.code (.loop c)) s df e s' df'
  | roundN {m c s s1 e s' df df1 df'} (h1 : Ex P ti cl eq top (.code c) s df .normal s1 df1) (h2 : Ex P ti cl eq top (.rounds m c) s1 df1 e s' df') : Ex P ti cl eq top (.rounds (m + 1) c) s df e s' df'
  | roundX {m c s e s1 df df1} (h1 : Ex P ti cl eq top (.code c) s df e s1 df1) (hne : e ≠ .normal) : Ex P ti cl eq top (.rounds (m + 1) c) s df e s1 df1
  | exit {id s df} : Ex P ti cl eq top (.code (.exit id)) s df (.exit id) s df
  | ret {s df} : Ex P ti cl eq top (.code .ret) s df .ret s df
  | rangeN {g ps assign body s df gf first cap d h1 st tm ps' a' b'} (ht : top = true) (hg : ev s.tmps g = some (.fn (.func gf) first cap))
      (hc : cl (.fn gf) (first ++ [.yf (s.h.next + 1)] ++ cap) (loopHeap s ps assign body) = some (d, h1)) (hl : h1.get (s.h.next + 1) = some (.loop st none tm ps' a' b')) (hst : st ≠ .busy) :
      Ex P ti cl eq top (.code (.rangeFunc g ps assign body)) s df .normal ⟨s.tmps, h1.del (s.h.next + 1)⟩ (.mark s.h.next :: df)
  | rangeX {g ps assign body s df gf first cap d h1 st j tm ps' a' b' e s' df'} (ht : top = true) (hg : ev s.tmps g = some (.fn (.func gf) first cap))
      (hc : cl (.fn gf) (first ++ [.yf (s.h.next + 1)] ++ cap) (loopHeap s ps assign body) = some (d, h1)) (hl : h1.get (s.h.next + 1) = some (.loop st (some j) tm ps' a' b')) (hst : st ≠ .busy)
      (h : Ex P ti cl eq top (.code j) ⟨s.tmps, h1.del (s.h.next + 1)⟩ (.mark s.h.next :: df) e s' df') :
      Ex P ti cl eq top (.code (.rangeFunc g ps assign body)) s df e s' df'
  | weak {j s s0 e s' df df'} (hle : Le s s0) (h : Ex P ti cl eq top j s0 df e s' df') : Ex P ti cl eq top j s df e s' df'
def Job.wpIn (F : Fence) (n : Nat) (P : Program) (Q : Exit → Act → World → Prop) : Job → Act → World → Prop
  | .code c, a, w => c.wpIn F n P Q a w
  | .rounds m c, a, w => Code.roundsIn F n P c Q m a w
section
variable {P : Program} {ti : TI} {cl : Cl} {eq : D → D → Bool} {top : Bool} {ro : Option Nat} {n : Nat}
theorem opsRun_wp2 (T : TOk P ti) (C : ClOk P cl) (ops : Array Oper) (l2 : List Oper) : ∀ (l : List Oper) (s s' : St) (c : Ctx) (a : Act) (Q : Exit → Act → World → Prop), opsRun P ti cl ops l s = some s' → Fit c s a →
    (∀ c' a', Fit c' s' a' → Grow c s.h c' s'.h → (∀ j, j < s.h.next → c'.φ j = c.φ j) → a'.defers = a.defers → wpListIn (WF ro) n P ops Q l2 a' c'.w) → wpListIn (WF ro) n P ops Q (l ++ l2) a c.w
  | [], s, s', c, a, Q, hr, hfit, hQ => by
    simp only [opsRun, Option.some.injEq] at hr; subst hr
    exact hQ c a hfit (Grow.refl _ _) (fun _ _ => rfl) rfl
  | o :: l, s, s', c, a, Q, hr, hfit, hQ => by
    simp only [opsRun] at hr
    simp only [List.cons_append, wpListIn]
    split at hr
    · rename_i hw
      rw [wanted_sound hfit.tmps hw, if_pos rfl]
      split at hr
      · rename_i d h' hd
        refine stepD_wp T C hfit.rel.bump (hfit.rel.fresh _ (Nat.le_refl _)) (by simp [bump]) hfit.tmps hd fun v c' k1 k2 k3 k4 => ?_
        refine opsRun_wp2 T C ops l2 l _ s' c' (a.put o.dst v) Q hr ⟨k2, put_sound (VS.keep k3.keeps _ _ hfit.tmps) k1⟩ fun c2 a2 f2 g2 p2 df2 => ?_
        refine hQ c2 a2 f2 (k3.bump.trans g2) (fun j hj => ?_) (by rw [df2]; cases o.dst <;> rfl)
        have h1 : j < h'.next := by have := k3.next; simp only [bump] at this; omega
        rw [p2 j h1, k4 j (by simp only [bump]; omega) (by omega)]
      · simp at hr
    · rename_i hw
      rw [wanted_sound hfit.tmps hw, if_neg (by simp)]
      refine ⟨fun _ _ => trivial, opsRun_wp2 T C ops l2 l _ s' c (a.put o.dst undef) Q hr ⟨hfit.rel, put_sound hfit.tmps V.undef⟩ fun c2 a2 f2 g2 p2 df2 => ?_⟩
      exact hQ c2 a2 f2 g2 p2 (by rw [df2]; cases o.dst <;> rfl)
    · simp at hr
theorem turn_obj {c : Ctx} {h : Heap} (R : Rel c h) {id b : Nat} {box box' : Box} {o' : Obj} (hg : h.get id = some box) (hφ : c.φ id = some (b, 0)) (hsh : c.w.shape? b = none)
    (hb : Keeps c { c with w := c.w.putObj b o' } → (c.w.putObj b o').heap[b]? = some o' → BR { c with w := c.w.putObj b o' } b 0 box') :
    Rel { c with w := c.w.putObj b o' } (h.set id box') ∧ Grow c h { c with w := c.w.putObj b o' } (h.set id box') := by
  obtain ⟨b0, o0, h1, _, h3⟩ := R.live id box hg
  rw [hφ] at h1; injection h1 with h1; injection h1 with e1 e2; subst e1; subst e2
  exact R.turn hg hφ rfl rfl rfl (by simp) (fun k hk => World.putObj_heap_other hk) (fun e z hz => by rw [hsh] at hz; cases hz) fun K => hb K (World.putObj_heap_same h3.lt)
theorem shape_loop {w : World} {b : Nat} {L : Loop} (h : w.heap[b]? = some (.loop L)) : w.shape? b = none := by simp [World.shape?, h]
theorem shape_dfr {w : World} {b : Nat} {x : Option (List Deferred)} (h : w.heap[b]? = some (.deferred x)) : w.shape? b = none := by simp [World.shape?, h]
theorem enter_loop {c : Ctx} {s : St} {a : Act} (hf : Fit c s a) (fn : FuncId) (ps : Array Tmp) (assign body : Code) :
    ∃ c1, c1.w = (c.w.alloc (.deferred (some []))).alloc (.loop { state := .ready, pending := none, fn, tmps := a.tmps, params := ps, assign, body, defers := c.w.heap.size }) ∧
      Rel c1 (loopHeap s ps assign body) ∧ Grow c s.h c1 (loopHeap s ps assign body) ∧ c1.φ s.h.next = some (c.w.heap.size, 0) ∧ c1.φ (s.h.next + 1) = some (c.w.heap.size + 1,0) ∧ ∀ j, j < s.h.next → c1.φ j = c.φ j := by
  have R0 : Rel c ⟨s.h.next + 2, s.h.bs⟩ := hf.rel.next (by omega)
  have hφ0 : c.φ s.h.next = none := hf.rel.fresh _ (Nat.le_refl _)
  obtain ⟨R1, G1⟩ := R0.push (id := s.h.next) hφ0 (by show s.h.next < s.h.next + 2; omega) (o := .deferred (some [])) (box := .dfr) ⟨rfl, Array.getElem?_push_size⟩
  have hφ1 : (c.push s.h.next (.deferred (some []))).φ (s.h.next + 1) = none := by rw [push_φ' _ _ _ _ (by omega)]; exact hf.rel.fresh _ (by omega)
  have hsz : (c.push s.h.next (.deferred (some []))).w.heap.size = c.w.heap.size + 1 := by simp [Ctx.push]
  obtain ⟨R2, G2⟩ := R1.push (id := s.h.next + 1) hφ1 (by show s.h.next + 1 < s.h.next + 2; omega) (o := .loop { state := .ready, pending := none, fn, tmps := a.tmps, params := ps, assign, body, defers := c.w.heap.size }) (box := .loop .ready none s.tmps ps.toList assign body)
    ⟨rfl, _, Array.getElem?_push_size, rfl, rfl, VS.keep (G1.keeps.trans (Ctx.push_keeps R1 hφ1 _)) _ _ hf.tmps, rfl, rfl, rfl⟩
  refine ⟨_, rfl, R2, ⟨G1.keeps.trans G2.keeps, G2.os.trans G1.os, G2.tape.trans G1.tape, G2.output.trans G1.output, Nat.le_trans G1.size G2.size, by show s.h.next ≤ s.h.next + 2; omega, (G1.trans G2).frame, (G1.trans G2).own, (G1.trans G2).stable⟩, ?_, ?_, fun j hj => ?_⟩
  · rw [push_φ' _ _ _ _ (by omega), push_φ]
  · rw [push_φ, hsz]
  · rw [push_φ' _ _ _ _ (by omega), push_φ' _ _ _ _ (by omega)]
theorem range_wp (C : ClOk P cl) {c : Ctx} {s : St} {a : Act} {Q : Exit → Act → World → Prop} {g : Operand} {ps : Array Tmp} {assign body : Code} {gf : FuncId} {first cap : List D} {d : D} {h1 : Heap} {st : LoopState} {pend : Option Code} {tm : List D} {ps' : List Tmp} {a' b' : Code}
    (hf : Fit c s a) (hg : ev s.tmps g = some (.fn (.func gf) first cap)) (hc : cl (.fn gf) (first ++ [.yf (s.h.next + 1)] ++ cap) (loopHeap s ps assign body) = some (d, h1)) (hl : h1.get (s.h.next + 1) = some (.loop st pend tm ps' a' b')) (hst : st ≠ .busy)
    (hQ : ∀ c1 dm, Fit c1 ⟨s.tmps, h1.del (s.h.next + 1)⟩ { a with defers := dm :: a.defers } → Grow c s.h c1 (h1.del (s.h.next + 1)) → (∀ j, j < s.h.next → c1.φ j = c.φ j) → DR c1 (.mark s.h.next) dm →
      match (generalizing := false) pend with | none => Q .normal { a with defers := dm :: a.defers } c1.w | some j => j.wpIn (WF none) n P Q { a with defers := dm :: a.defers } c1.w) : (Code.rangeFunc g ps assign body).wpIn (WF none) n P Q a c.w := by
  refine wpIn_rangeFunc fun fn _ => ?_
  obtain ⟨c1, hw1, R1, G1, p0, p1, pj⟩ := enter_loop hf fn ps assign body
  have hv := ev_sound hf.rel.inv hf.tmps hg
  simp only [V] at hv
  obtain ⟨xs, ys, hv, v1, v2⟩ := hv
  obtain ⟨hent, hcall⟩ := C _ _ _ _ _ hc
  have hall : VS c1 (first ++ [.yf (s.h.next + 1)] ++ cap) (xs ++ [Value.func (.yield (c.w.heap.size + 1)) #[] #[]] ++ ys) :=
    ((VS.keep G1.keeps _ _ v1).append (VS.cons (by simp only [V]; exact ⟨_, p1, rfl⟩) VS.nil)).append (VS.keep G1.keeps _ _ v2)
  refine ⟨c.w.heap.size + 1,[⟨.collected c.w.heap.size, #[]⟩], c1.w, ⟨.fn (.func gf) ys.toArray, (xs ++ [Value.func (.yield (c.w.heap.size + 1)) #[] #[]]).toArray⟩, c1.w, gf, (xs ++ [Value.func (.yield (c.w.heap.size + 1)) #[] #[]] ++ ys).toArray, c1.w, by rw [hw1]; exact run_enterLoop_outer (P := P) fn a.tmps ps assign body, ?_, fun _ _ => trivial, ?_, fun hx => by simp [WF, Fence.wide] at hx, ?_⟩
  · simp only [resolve, hv, Deferred.ofValue, Sem.run_pure]
    congr 3
    apply Array.ext'
    simp [Act.eval]
  · simp only [invoke]
    rw [show (xs ++ [Value.func (.yield (c.w.heap.size + 1)) #[] #[]]).toArray ++ ys.toArray = (xs ++ [Value.func (.yield (c.w.heap.size + 1)) #[] #[]] ++ ys).toArray from by apply Array.ext'; simp]
    exact run_callFunc hent _ _
  · refine callsWF ((hcall c1 _ R1 hall).mono ?_)
    rintro e w' ⟨v, c2, rfl, rfl, k1, k2, k3, k4⟩
    have e1 : c2.φ (s.h.next + 1) = some (c.w.heap.size + 1,0) := by rw [k4 _ (by show s.h.next + 1 < s.h.next + 2; omega)]; exact p1
    have e0 : c2.φ s.h.next = some (c.w.heap.size, 0) := by rw [k4 _ (by show s.h.next < s.h.next + 2; omega)]; exact p0
    obtain ⟨bb, oo, q1, _, q3⟩ := k2.live _ _ hl
    rw [e1] at q1; injection q1 with q1; injection q1 with q1 q2; subst q1; subst q2
    obtain ⟨_, L, q4, q5, rfl, q7, q8⟩ := q3
    obtain ⟨R3, G3⟩ := turn_obj k2 (box' := .loop .exhausted L.pending tm ps' a' b') (o' := .loop { L with state := .exhausted }) hl e1 (shape_loop q4) fun K hb => ⟨rfl, _, hb, rfl, rfl, VS.keep K _ _ q7, q8⟩
    obtain ⟨R4, G4⟩ := R3.del (s.h.next + 1)
    have hdel : (h1.set (s.h.next + 1) (.loop .exhausted L.pending tm ps' a' b')).del (s.h.next + 1) = h1.del (s.h.next + 1) := by
      obtain ⟨n1, b1⟩ := h1
      exact congrArg (Heap.mk n1) (delL_setL _ _ _)
    rw [hdel] at R4 G4
    have G := (G1.trans k3).trans (G3.trans G4)
    have := hQ { c2 with w := c2.w.putObj (c.w.heap.size + 1) (.loop { L with state := .exhausted }) } ⟨.collected c.w.heap.size, #[]⟩ ⟨R4, VS.keep G.keeps _ _ hf.tmps⟩ G (fun j hj => by
      show c2.φ j = c.φ j
      rw [k4 j (by show j < s.h.next + 2; omega), pj j hj]) ⟨_, e0, rfl⟩
    refine ⟨L.pending, _, run_endLoop q4 (by rw [q5]; exact hst), ?_⟩
    generalize L.pending = pp at this ⊢
    cases pp <;> exact this
theorem Ex.sound (hm : P.follows .mixedOrders = true) (T : TOk P ti) (C : ClOk P cl) (E : ∀ a b, eq a b = true → a = b) (hro : top = true → ro = none) {j : Job} {s : St} {df : List DE} {e : Exit} {s' : St} {df' : List DE} (h : Ex P ti cl eq top j s df e s' df') :
    ∀ (c : Ctx) (a : Act) (Q : Exit → Act → World → Prop), Fit c s a → DRs c df a.defers → (∀ c' a', Fit c' s' a' → Grow c s.h c' s'.h → (∀ j, j < s.h.next → c'.φ j = c.φ j) → DRs c' df' a'.defers → Q e a' c'.w) → j.wpIn (WF ro) n P Q a c.w := by
  induction h with
  | skip => exact fun c a Q hf hd hQ => wpIn_skip (hQ c a hf (Grow.refl _ _) (fun _ _ => rfl) hd)
  | label => exact fun c a Q hf hd hQ => wpIn_label (hQ c a hf (Grow.refl _ _) (fun _ _ => rfl) hd)
  | region h => exact fun c a Q hf hd hQ => wpIn_region_list (opsRun_wp T C _ _ _ _ _ _ _ h hf fun c' a' f1 g1 p1 d1 => hQ c' a' f1 g1 p1 (by rw [d1]; exact DRs.keep g1.keeps _ _ hd))
  | draw hok h => exact fun c a Q hf hd hQ => drawRun_wp hm T C E hok h hf fun c' a' f1 g1 p1 d1 => hQ c' a' f1 g1 p1 (by rw [d1]; exact DRs.keep g1.keeps _ _ hd)
  | @dfr id ops s df pre o cc f g first as cap s1 ht hops ho hcal hg h1 hfv ha =>
    intro c a Q hf hd hQ
    have hr0 := hro ht; subst hr0
    refine wpIn_region_list ?_
    rw [hops]
    refine opsRun_wp2 T C ops [o] pre s s1 c a Q h1 hf fun c' a' f1 g1 p1 d1 => ?_
    simp only [wpListIn]
    have hw : Region.wanted o (yielded ops a'.tmps) = true := by unfold Region.wanted; simp [hg]
    rw [hw, if_pos rfl]
    have hv := ev_sound f1.rel.inv f1.tmps hfv
    simp only [V] at hv
    obtain ⟨xs, ys, hv, v1, v2⟩ := hv
    have hargs := evs_sound f1.rel.inv f1.tmps ha
    have hrun : (o.semAt none a'.eval).run P c'.w = .ok (.defer ⟨.fn (.func g) ys.toArray, (xs ++ cc.args.toList.map a'.eval).toArray⟩) c'.w := by
      show (execOp a'.eval o).run P c'.w = _
      unfold execOp
      simp only [ho, resolve, hcal, Sem.run_bind, hv, Deferred.ofValue, Sem.run_pure, Result.andThen]
      congr 3
      apply Array.ext'
      simp
    refine ⟨fun _ _ => trivial, ?_⟩
    show o.uponIn (WF none) n P a' _ Q ((o.semAt none a'.eval).run P c'.w)
    rw [hrun]
    refine hQ c' _ ⟨f1.rel, put_sound (a := { a' with defers := _ }) f1.tmps V.undef⟩ g1 p1 ?_
    have : ({ a' with defers := ⟨.fn (.func g) ys.toArray, (xs ++ cc.args.toList.map a'.eval).toArray⟩ :: a'.defers } : Act).put o.dst undef = { (a'.put o.dst undef) with defers := ⟨.fn (.func g) ys.toArray, (xs ++ cc.args.toList.map a'.eval).toArray⟩ :: a'.defers } := by cases o.dst <;> rfl
    rw [this]
    exact ⟨_, _, rfl, ⟨_, _, rfl, (v1.append hargs).append v2⟩, by rw [d1]; exact DRs.keep g1.keeps _ _ hd⟩
  | seq h1 h2 i1 i2 =>
    intro c a Q hf hd hQ
    refine wpIn_seq (i1 c a _ hf hd fun c1 a1 f1 g1 p1 d1 => i2 c1 a1 Q f1 d1 fun c2 a2 f2 g2 p2 d2 => hQ c2 a2 f2 (g1.trans g2) (fun j hj => ?_) d2)
    have := g1.next
    rw [p2 j (by omega), p1 j hj]
  | @seqX x y s e s1 df df1 h1 hne i1 =>
    intro c a Q hf hd hQ
    refine wpIn_seq (i1 c a _ hf hd fun c1 a1 f1 g1 p1 d1 => ?_)
    have := hQ c1 a1 f1 g1 p1 d1
    cases e <;> first | exact absurd rfl hne | exact this
  | cond hc h i =>
    intro c a Q hf hd hQ
    have hb := ev_sound hf.rel.inv hf.tmps hc
    simp only [V] at hb
    exact wpIn_cond hb.2 (i c a Q hf hd hQ)
  | @block id c0 s e s' df df' h i =>
    intro c a Q hf hd hQ
    refine wpIn_block (i c a _ hf hd fun c1 a1 f1 g1 p1 d1 => ?_)
    have := hQ c1 a1 f1 g1 p1 d1
    cases e with
    | exit i =>
      simp only [Exit.inBlock]
      simp only [blockX] at this
      split
      · rename_i hi; rwa [if_pos hi] at this
      · rename_i hi; rwa [if_neg hi] at this
    | _ => exact this
  | loop h i => exact fun c a Q hf hd hQ => wpIn_loop_rounds _ (i c a Q hf hd hQ)
  | roundN h1 h2 i1 i2 =>
    intro c a Q hf hd hQ
    refine i1 c a _ hf hd fun c1 a1 f1 g1 p1 d1 => i2 c1 a1 Q f1 d1 fun c2 a2 f2 g2 p2 d2 => hQ c2 a2 f2 (g1.trans g2) (fun j hj => ?_) d2
    have := g1.next
    rw [p2 j (by omega), p1 j hj]
  | @roundX m c0 s e s1 df df1 h1 hne i1 =>
    intro c a Q hf hd hQ
    refine i1 c a _ hf hd fun c1 a1 f1 g1 p1 d1 => ?_
    have := hQ c1 a1 f1 g1 p1 d1
    cases e <;> first | exact absurd rfl hne | exact this
  | exit => exact fun c a Q hf hd hQ => wpIn_exit (hQ c a hf (Grow.refl _ _) (fun _ _ => rfl) hd)
  | ret => exact fun c a Q hf hd hQ => wpIn_ret (hQ c a hf (Grow.refl _ _) (fun _ _ => rfl) hd)
  | @rangeN g ps assign body s df gf first cap d h1 st tm ps' a' b' ht hg hc hl hst =>
    intro c a Q hf hd hQ
    have hr0 := hro ht; subst hr0
    refine range_wp C hf hg hc hl hst fun c1 a1 f1 g1 p1 d1 => ?_
    exact hQ c1 _ f1 g1 p1 ⟨_, _, rfl, d1, DRs.keep g1.keeps _ _ hd⟩
  | @rangeX g ps assign body s df gf first cap d h1 st j tm ps' a' b' e s' df' ht hg hc hl hst h i =>
    intro c a Q hf hd hQ
    have hr0 := hro ht; subst hr0
    refine range_wp C hf hg hc hl hst fun c1 a1 f1 g1 p1 d1 => ?_
    refine i c1 _ Q f1 ⟨_, _, rfl, d1, DRs.keep g1.keeps _ _ hd⟩ fun c2 a2 f2 g2 p2 d2 => hQ c2 a2 f2 (g1.trans g2) (fun j hj => ?_) d2
    have := g1.next
    rw [p2 j (Nat.lt_of_lt_of_le hj this), p1 j hj]
  | weak hle h i =>
    intro c a Q hf hd hQ
    obtain ⟨c0, e0, f0, g0, p0⟩ := hle c a hf
    rw [← e0]
    refine i c0 a Q f0 (DRs.keep g0.keeps _ _ hd) fun c1 a1 f1 g1 p1 d1 => hQ c1 a1 f1 (g0.trans g1) (fun j hj => ?_) d1
    have := g0.next
    rw [p1 j (by omega), p0 j hj]
def resF (tmps : Array Value) : ResultVar → Sem Value
  | .tmp t => pure (tmps.getD t undef)
  | .cell a t => do loadVar t (← asAddr (tmps.getD a undef))
theorem results_eq (fn : Func) (tmps : Array Value) : results fn tmps = (do let vs ← fn.results.mapM (resF tmps); pure (if h : vs.size = 1 then vs[0] else .tuple vs)) := by
  unfold results
  congr 2
def resOne (ti : TI) (s : St) : ResultVar → Option D
  | .tmp t => ev s.tmps (.tmp t)
  | .cell a t => match ev s.tmps (.tmp a) with | some d => aLoad ti s.h t d | none => none
def resList (ti : TI) (s : St) : List ResultVar → Option (List D)
  | [] => some []
  | r :: rs => match resOne ti s r, resList ti s rs with | some d, some ds => some (d :: ds) | _, _ => none
def resOf : List D → Option D
  | [d] => some d
  | ds => if ds.length ≤ 4 then some (.tup ds) else none
def resD (ti : TI) (fn : Func) (s : St) : Option D := match resList ti s fn.results.toList with | some ds => resOf ds | none => none
theorem getD_eval (a : Act) (t : Nat) : a.tmps.getD t undef = a.eval (.tmp t) := by
  simp [Act.eval, Array.getD]
theorem resOne_sound (T : TOk P ti) {c : Ctx} {s : St} {a : Act} (hf : Fit c s a) {r : ResultVar} {d : D} (h : resOne ti s r = some d) : ∃ v, (resF a.tmps r).run P c.w = .ok v c.w ∧ V c d v := by
  cases r with
  | tmp t => exact ⟨_, rfl, by rw [getD_eval]; exact ev_sound hf.rel.inv hf.tmps h⟩
  | cell x t =>
    simp only [resOne] at h
    split at h
    · rename_i da ha
      obtain ⟨v, h1, h2⟩ := load_sound (P := P) T hf.rel h (ev_sound hf.rel.inv hf.tmps ha)
      refine ⟨v, ?_, h2⟩
      rw [← h1]
      simp only [resF, getD_eval, Instr.loadAt]
      have hv := ev_sound hf.rel.inv hf.tmps ha
      unfold aLoad at h
      split at h
      · split at h
        · simp only [V] at hv; obtain ⟨_, _, _, hv⟩ := hv; rw [hv]; rfl
        · simp only [V] at hv; obtain ⟨_, _, _, hv, _⟩ := hv; rw [hv]; rfl
        · simp at h
      · simp at h
    · simp at h
theorem resList_sound (T : TOk P ti) {c : Ctx} {s : St} {a : Act} (hf : Fit c s a) : ∀ {rs : List ResultVar} {ds : List D}, resList ti s rs = some ds → ∃ vs, (rs.mapM (resF a.tmps)).run P c.w = .ok vs c.w ∧ VS c ds vs
  | [], ds, h => by simp only [resList, Option.some.injEq] at h; subst h; exact ⟨[], rfl, VS.nil⟩
  | r :: rs, ds, h => by
    simp only [resList] at h
    split at h
    · rename_i d ds' h1 h2
      simp only [Option.some.injEq] at h; subst h
      obtain ⟨v, e1, v1⟩ := resOne_sound (P := P) T hf h1
      obtain ⟨vs, e2, v2⟩ := resList_sound T hf h2
      refine ⟨v :: vs, ?_, VS.cons v1 v2⟩
      rw [List.mapM_cons]
      simp [e1, e2]
    · simp at h
theorem resD_sound (T : TOk P ti) {c : Ctx} {s : St} {a : Act} (hf : Fit c s a) {fn : Func} {d : D} (h : resD ti fn s = some d) : ∃ v, (results fn a.tmps).run P c.w = .ok v c.w ∧ V c d v := by
  unfold resD at h
  split at h
  · rename_i ds hds
    obtain ⟨vs, e1, v1⟩ := resList_sound (P := P) T hf hds
    have hm : (fn.results.mapM (resF a.tmps)).run P c.w = .ok vs.toArray c.w := by
      have : fn.results.mapM (resF a.tmps) = (do let l ← fn.results.toList.mapM (resF a.tmps); pure l.toArray) := by
        rw [Array.mapM_eq_mapM_toList]; simp
      rw [this]
      simp [e1]
    have hl := v1.length
    refine ⟨if h : vs.toArray.size = 1 then vs.toArray[0] else .tuple vs.toArray, by rw [results_eq]; simp [hm], ?_⟩
    unfold resOf at h
    split at h
    · simp only [Option.some.injEq] at h; subst h
      obtain ⟨y, ys, rfl, hy, h0⟩ := v1.inv
      simp only [VS] at h0; subst h0
      simpa using hy
    · rename_i hne
      split at h
      · simp only [Option.some.injEq] at h; subst h
        have : ¬ vs.toArray.size = 1 := by
          simp only [List.size_toArray, hl]
          intro h1
          obtain ⟨x, hx⟩ := List.length_eq_one_iff.1 h1
          exact hne x hx
        rw [dif_neg this]
        simp only [V]
        exact ⟨vs, rfl, v1⟩
      · simp at h
  · simp at h
def begin (fn : Func) (ds : List D) (h : Heap) : St := ⟨ds ++ List.replicate (fn.ntmps - ds.length) undefD, h⟩
def DC1 (P : Program) (g : FuncId) (ds : List D) (h h' : Heap) : Prop :=
  entersB P g = true ∧ ∀ c vs, Rel c h → VS c ds vs → ∀ n, CallsDIn (WF none) n P g vs.toArray .returning c.w (fun e u w' => ∃ v c', e = .returned v ∧ u = .returning ∧ c'.w = w' ∧ Rel c' h' ∧ Grow c h c' h' ∧ ∀ j, j < h.next → c'.φ j = c.φ j)
abbrev Dl := FuncId → List D → Heap → Option Heap
def DlOk (P : Program) (dl : Dl) : Prop := ∀ g ds h h', dl g ds h = some h' → DC1 P g ds h h'
def leaveD (dl : Dl) : List DE → Heap → Option Heap
  | [], h => some h
  | .mark id :: l, h => match h.get id with | some .dfr => leaveD dl l (h.del id) | _ => none
  | .call g ds :: l, h => match dl g ds h with | some h' => leaveD dl l h' | none => none
theorem leave_sound {dl : Dl} (DL : DlOk P dl) {fn : Func} {tmps : Array Value} {R : Ending → World → Prop} : ∀ (df : List DE) (ds : List Deferred) (c : Ctx) (h h' : Heap), leaveD dl df h = some h' → Rel c h → DRs c df ds →
    (∀ c', Rel c' h' → Grow c h c' h' → (∀ j, j < h.next → c'.φ j = c.φ j) → ∃ v, (results fn tmps).run P c'.w = .ok v c'.w ∧ R (.returned v) c'.w) → LeavesInM (WF none) n P fn tmps R ds .returning c.w
  | [], ds, c, h, h', hl, hr, hd, hR => by
    simp only [DRs] at hd; subst hd
    simp only [leaveD, Option.some.injEq] at hl; subst hl
    exact hR c hr (Grow.refl _ _) fun _ _ => rfl
  | .mark id :: l, ds, c, h, h', hl, hr, hd, hR => by
    obtain ⟨d, ds', rfl, ⟨b, hφ, rfl⟩, hd'⟩ := hd
    simp only [leaveD] at hl
    split at hl
    · rename_i hg
      obtain ⟨b', o', q1, _, q3⟩ := hr.live _ _ hg
      rw [hφ] at q1; injection q1 with q1; injection q1 with q1 q2; subst q1; subst q2
      obtain ⟨R1, G1⟩ := hr.del id
      have hno : ∀ k, Owned c (h.del id) k → k ≠ b := fun k ⟨j, bx, o, hgj, hφj⟩ e => by
        subst e
        rw [Heap.get_del] at hgj
        split at hgj
        · cases hgj
        · rename_i hne
          exact hne (hr.inj id j _ _ k 0 o hg hgj hφ hφj)
      have K : Keeps c { c with w := c.w.putObj b (.deferred none) } := ⟨fun _ h => h, fun _ _ h => h, fun k hk => World.putObj_heap_other fun e => by
        subst e
        obtain ⟨b2, o2, z1, z2, _⟩ := hr.live _ _ hg
        rw [hφ] at z1; injection z1 with z1; injection z1 with z1 _; subst z1
        exact z2 hk, fun k e z hz => by
        by_cases hk : k = b
        · subst hk; rw [shape_dfr q3.2] at hz; cases hz
        · unfold World.shape? at *; rw [show ({ c with w := c.w.putObj b (.deferred none) } : Ctx).w.heap[k]? = c.w.heap[k]? from World.putObj_heap_other hk]; exact hz⟩
      have R2 : Rel { c with w := c.w.putObj b (.deferred none) } (h.del id) := ⟨fun k hk => by have := hr.size k hk; simpa using this, R1.fresh, fun j bx hgj => by
        obtain ⟨k, o, y1, y2, y3⟩ := R1.live j bx hgj
        exact ⟨k, o, y1, y2, y3.keep K (World.putObj_heap_other (hno k ⟨j, bx, o, hgj, y1⟩))⟩, R1.inj, GT.kept K R1.inv⟩
      have G2 : Grow c h { c with w := c.w.putObj b (.deferred none) } (h.del id) := ⟨K, rfl, rfl, rfl, by simp, Nat.le_refl _, fun k hk hn => World.putObj_heap_other fun e => hn (by subst e; exact ⟨id, _, 0, hg, hφ⟩), fun k ho => G1.own k ho, fun _ h => .inl h⟩
      refine ⟨by simp, .inl ⟨b, _, rfl, run_takeDeferred q3.2, ?_⟩⟩
      exact leave_sound DL l ds' _ (h.del id) h' hl R2 (DRs.keep K _ _ hd') fun c' r' g' p' => hR c' r' (G2.trans g') p'
    · simp at hl
  | .call g as :: l, ds, c, h, h', hl, hr, hd, hR => by
    obtain ⟨d, ds', rfl, ⟨args, cap, rfl, hv⟩, hd'⟩ := hd
    simp only [leaveD] at hl
    split at hl
    · rename_i h1 hdl
      obtain ⟨hent, hcall⟩ := DL _ _ _ _ hdl
      refine ⟨by simp, .inr ⟨fun hx => by simp [WF, Fence.wide] at hx, _, _, g, (args ++ cap).toArray, rfl, ?_, fun _ _ => trivial, (hcall c _ hr hv _).mono ?_⟩⟩
      · simp only [invoke]
        rw [show args.toArray ++ cap.toArray = (args ++ cap).toArray from by apply Array.ext'; simp]
        exact run_callFunc hent _ _
      · rintro e u w' ⟨v, c', rfl, rfl, rfl, r1, g1, p1⟩
        refine leave_sound DL l ds' c' h1 h' hl r1 (DRs.keep g1.keeps _ _ hd') fun c2 r2 g2 p2 => hR c2 r2 (g1.trans g2) fun j hj => ?_
        have := g1.next
        rw [p2 j (by omega), p1 j hj]
    · simp at hl
theorem AC1.of_ex (hm : P.follows .mixedOrders = true) (T : TOk P ti) (C : ClOk P cl) (E : ∀ a b, eq a b = true → a = b) {dl : Dl} (DL : DlOk P dl) {g : FuncId} {fn : Func} {code : Code} {ds : List D} {h h' : Heap} {e : Exit} {s' : St} {df : List DE} {d : D}
    (hg : P.funcs[g]? = some fn) (hb : fn.body = some code) (hn : (fn.name == "runtime.NumGoroutine") = false) (hex : Ex P ti cl eq true (.code code) (begin fn ds h) [] e s' df) (he : e = .normal ∨ e = .ret)
    (hl : leaveD dl df s'.h = some h') (hr : resD ti fn ⟨s'.tmps, h'⟩ = some d) : AC1 P g ds h d h' := by
  refine ⟨by unfold entersB; rw [hg]; simp [hb, hn], fun c vs R hvs => ?_⟩
  refine (callsIn_wide (n := 0)).1 (callsIn_of_wp_marks hg hb trivial ?_)
  have hfit : Fit c (begin fn ds h) { tmps := vs.toArray ++ Array.replicate (fn.ntmps - vs.toArray.size) undef, defers := [] } := by
    refine ⟨R, ?_⟩
    simp only [begin, Array.toList_append, Array.toList_replicate, List.size_toArray]
    rw [hvs.length]
    exact hvs.append (VS.replicate V.undef _)
  refine (hex.sound (ro := none) (n := 0) hm T C E (fun _ => rfl) c _ _ hfit (by simp [DRs]) fun c' a' f1 g1 p1 d1 => ?_)
  have key : LeavesInM (WF none) 0 P fn a'.tmps (fun e w' => ∃ v c', e = .returned v ∧ c'.w = w' ∧ V c' d v ∧ Rel c' h' ∧ Grow c h c' h' ∧ ∀ j, j < h.next → c'.φ j = c.φ j) a'.defers .returning c'.w := by
    refine leave_sound DL df a'.defers c' s'.h h' hl f1.rel d1 fun c2 r2 g2 p2 => ?_
    obtain ⟨v, e1, v1⟩ := resD_sound (P := P) T (a := a') (⟨r2, VS.keep g2.keeps _ _ f1.tmps⟩ : Fit c2 ⟨s'.tmps, h'⟩ a') hr
    refine ⟨v, e1, v, c2, rfl, rfl, v1, r2, g1.trans g2, fun j hj => ?_⟩
    have := g1.next
    have hn0 : (begin fn ds h).h.next = h.next := rfl
    rw [p2 j (by omega), p1 j hj]
  rcases he with rfl | rfl
  · exact key
  · exact key
end
end Go.Am
/-
  The abstract machine, part 22: code and calls, carried out.
-/
namespace Go.Am
set_option linter.unusedSectionVars false
variable [GT]
def eqV : Value → Value → Bool
  | .bool a, .bool b => a == b
  | .int k a, .int k' b => decide (k = k') && a == b
  | .pointer none, .pointer none => true
  | .slice none a b, .slice none a' b' => a == a' && b == b'
  | .map none, .map none => true
  | .nilFunc, .nilFunc => true
  | .nilIface, .nilIface => true
  | _, _ => false
theorem eqV_eq : ∀ a b, eqV a b = true → a = b := by
  intro a b h
  unfold eqV at h
  split at h <;> simp_all
mutual
def eqD : D → D → Bool
  | .v a, .v b => eqV a b
  | .str a, .str b => a == b
  | .imm n a, .imm m b => n == m && eqDs a b
  | .iptr a, .iptr b => eqDs a b
  | .sl i o n c e x, .sl i' o' n' c' e' x' => i == i' && o == o' && n == n' && c == c' && e == e' && x == x'
  | .ptr i o, .ptr i' o' => i == i' && o == o'
  | .agg a, .agg b => eqDs a b
  | .tup a, .tup b => eqDs a b
  | .fn f a b, .fn g c d => decide (f = g) && eqDs a c && eqDs b d
  | .map i, .map j => i == j
  | .iface t a, .iface u b => t == u && eqD a b
  | .e0, .e0 => true
  | .any, .any => true
  | .yf i, .yf j => i == j
  | _, _ => false
def eqDs : List D → List D → Bool
  | [],[] => true
  | a :: l, b :: m => eqD a b && eqDs l m
  | _, _ => false
end
mutual
theorem eqD_eq : ∀ a b, eqD a b = true → a = b
  | .v a, b, h => by cases b <;> simp [eqD] at h; rw [eqV_eq _ _ h]
  | .str a, b, h => by cases b <;> simp [eqD] at h; rw [h]
  | .imm n a, b, h => by cases b <;> simp [eqD] at h; rw [h.1, eqDs_eq _ _ h.2]
  | .iptr a, b, h => by cases b <;> simp [eqD] at h; rw [eqDs_eq _ _ h]
  | .sl .., b, h => by cases b <;> simp [eqD] at h; obtain ⟨⟨⟨⟨⟨rfl, rfl⟩, rfl⟩, rfl⟩, rfl⟩, rfl⟩ := h; rfl
  | .ptr .., b, h => by cases b <;> simp [eqD] at h; obtain ⟨rfl, rfl⟩ := h; rfl
  | .agg a, b, h => by cases b <;> simp [eqD] at h; rw [eqDs_eq _ _ h]
  | .tup a, b, h => by cases b <;> simp [eqD] at h; rw [eqDs_eq _ _ h]
  | .fn f a b, d, h => by cases d <;> simp [eqD] at h; rw [h.1.1, eqDs_eq _ _ h.1.2, eqDs_eq _ _ h.2]
  | .map i, b, h => by cases b <;> simp [eqD] at h; rw [h]
  | .iface t a, b, h => by cases b <;> simp [eqD] at h; rw [h.1, eqD_eq _ _ h.2]
  | .e0, b, h => by cases b <;> simp [eqD] at h; rfl
  | .any, b, h => by cases b <;> simp [eqD] at h; rfl
  | .yf i, b, h => by cases b <;> simp [eqD] at h; rw [h]
theorem eqDs_eq : ∀ a b, eqDs a b = true → a = b
  | [], b, h => by cases b <;> simp [eqDs] at h; rfl
  | x :: l, b, h => by cases b <;> simp [eqDs] at h; rw [eqD_eq _ _ h.1, eqDs_eq _ _ h.2]
end
def setPs (ps : List Tmp) (ds : List D) (tm : List D) : List D := (ps.zip ds).foldl (fun t p => t.set p.1 p.2) tm
def jumpOf : Exit → Option (Option Code)
  | .normal => some none
  | .ret => some (some .ret)
  | .exit x => some (some (.exit x))
  | .goto t => some (some (.goto t))
  | _ => none
def doneSt (j : Option Code) : LoopState := if j.isNone then .ready else .done
theorem setPs_sound {c : Ctx} : ∀ (ps : List Tmp) (ds : List D) (vs : List Value) (tm : List D) (tmps : Array Value), VS c ds vs → VS c tm tmps.toList → VS c (setPs ps ds tm) ((ps.zip vs).foldl (fun (t : Array Value) p => t.setIfInBounds p.1 p.2) tmps).toList
  | [], ds, vs, tm, tmps, _, ht => by simpa [setPs] using ht
  | p :: ps, [], vs, tm, tmps, hv, ht => by simp only [VS] at hv; subst hv; simpa [setPs] using ht
  | p :: ps, d :: ds, vs, tm, tmps, hv, ht => by
    obtain ⟨y, ys, rfl, h1, h2⟩ := hv.inv
    have := setPs_sound ps ds ys (tm.set p d) (tmps.setIfInBounds p y) h2 (by rw [Array.toList_setIfInBounds]; exact ht.set p h1)
    simpa [setPs] using this
theorem zip_fold {ps : Array Tmp} {vs : List Value} {tmps : Array Value} : (ps.zip vs.toArray).foldl (fun tmps (t, a) => tmps.setIfInBounds t a) tmps = (ps.toList.zip vs).foldl (fun (t : Array Value) p => t.setIfInBounds p.1 p.2) tmps := by
  rw [← Array.foldl_toList]
  simp [Array.toList_zip]
theorem Y1.of_ex {P : Program} {ti : TI} {cl : Cl} {eq : D → D → Bool} (hm : P.follows .mixedOrders = true) (T : TOk P ti) (C : ClOk P cl) (E : ∀ a b, eq a b = true → a = b) {id : Nat} {ds : List D} {h : Heap} {tm tm1 tm2 : List D} {ps ps1 ps2 : List Tmp} {assign body as1 bd1 as2 bd2 : Code} {st2 : LoopState} {pend2 jump : Option Code} {s1 s2 : St} {df1 df2 : List DE} {e : Exit}
    (hg : h.get id = some (.loop .ready none tm ps assign body)) (hlen : ds.length = ps.length) (h1 : Ex P ti cl eq false (.code assign) ⟨setPs ps ds tm, h⟩ [] .normal s1 df1) (hg1 : s1.h.get id = some (.loop .ready none tm1 ps1 as1 bd1))
    (h2 : Ex P ti cl eq false (.code body) ⟨s1.tmps, s1.h.set id (.loop .busy none tm1 ps1 as1 bd1)⟩ df1 e s2 df2) (hg2 : s2.h.get id = some (.loop st2 pend2 tm2 ps2 as2 bd2)) (hj : jumpOf e = some jump) :
    Y1 P id ds h (.v (.bool jump.isNone)) (s2.h.set id (.loop (doneSt jump) jump tm2 ps2 as2 bd2)) := by
  intro c vs b R hvs hφ
  have hid : id < h.next := Nat.lt_of_not_le fun hle => by rw [R.fresh id hle] at hφ; cases hφ
  obtain ⟨b0, o0, q1, _, q3⟩ := R.live _ _ hg
  rw [hφ] at q1; injection q1 with q1; injection q1 with e1 e2; subst e1; subst e2
  obtain ⟨_, L, l1, l2, l3, l4, l5, l6, l7⟩ := q3
  have hsz : vs.toArray.size = L.params.size := by
    have a1 := hvs.length
    have a2 : L.params.toList.length = ps.length := by rw [l5]
    simp at a2 ⊢; omega
  refine ⟨_, _, _, _, run_yield l1 hsz, fun ro n => roundIn_of_wpIn trivial ?_⟩
  rw [zip_fold, l5, l6, l7]
  have hfit : Fit c ⟨setPs ps ds tm, h⟩ { tmps := (ps.zip vs).foldl (fun (t : Array Value) p => t.setIfInBounds p.1 p.2) L.tmps, defers := [] } := ⟨R, setPs_sound ps ds vs tm L.tmps hvs l4⟩
  refine h1.sound (ro := some b) (n := n) hm T C E (fun h => by cases h) c _ _ hfit (by simp [DRs]) fun c1 a1 f1 g1 p1 d1 => ?_
  have e1 : c1.φ id = some (b, 0) := by rw [p1 id hid]; exact hφ
  obtain ⟨b1, o1, r1, _, r3⟩ := f1.rel.live _ _ hg1
  rw [e1] at r1; injection r1 with r1; injection r1 with x1 x2; subst x1; subst x2
  obtain ⟨_, L1, m1, m2, m3, m4, m5⟩ := r3
  obtain ⟨R2, G2⟩ := turn_obj f1.rel (box' := .loop .busy none tm1 ps1 as1 bd1) (o' := .loop { L1 with state := .busy }) hg1 e1 (shape_loop m1) fun K hb => ⟨rfl, _, hb, rfl, m3, VS.keep K _ _ m4, m5⟩
  refine ⟨_, run_beginRound m1 m2, ?_⟩
  refine h2.sound (ro := some b) (n := n) hm T C E (fun h => by cases h) { c1 with w := c1.w.putObj b (.loop { L1 with state := .busy }) } a1 _ ⟨R2, VS.keep G2.keeps _ _ f1.tmps⟩ (DRs.keep G2.keeps _ _ d1) fun c3 a3 f3 g3 p3 d3 => ?_
  have hid1 : id < (s1.h.set id (.loop .busy none tm1 ps1 as1 bd1)).next := by
    have := g1.next
    show id < s1.h.next
    exact Nat.lt_of_lt_of_le hid this
  have e3 : c3.φ id = some (b, 0) := by rw [p3 id hid1]; exact e1
  obtain ⟨b3, o3, t1, _, t3⟩ := f3.rel.live _ _ hg2
  rw [e3] at t1; injection t1 with t1; injection t1 with x1 x2; subst x1; subst x2
  obtain ⟨_, L3, n1, n2, n3, n4, n5⟩ := t3
  obtain ⟨R4, G4⟩ := turn_obj f3.rel (box' := .loop (doneSt jump) jump tm2 ps2 as2 bd2) (o' := .loop { L3 with state := if jump.isNone then .ready else .done, pending := jump }) hg2 e3 (shape_loop n1) fun K hb => ⟨rfl, _, hb, rfl, rfl, VS.keep K _ _ n4, n5⟩
  have fin : ∃ v c', (Ending.returned (.bool jump.isNone)) = .returned v ∧ c'.w = c3.w.putObj b (.loop { L3 with state := if jump.isNone then .ready else .done, pending := jump }) ∧ V c' (.v (.bool jump.isNone)) v ∧ Rel c' (s2.h.set id (.loop (doneSt jump) jump tm2 ps2 as2 bd2)) ∧ Grow c h c' (s2.h.set id (.loop (doneSt jump) jump tm2 ps2 as2 bd2)) ∧ ∀ j, j < h.next → c'.φ j = c.φ j := by
    refine ⟨_, _, rfl, rfl, by simp [V, free], R4, ((g1.trans G2).trans g3).trans G4, fun j hj => ?_⟩
    show c3.φ j = c.φ j
    have hj1 : j < (s1.h.set id (.loop .busy none tm1 ps1 as1 bd1)).next := Nat.lt_of_lt_of_le hj g1.next
    rw [p3 j hj1]
    exact p1 j hj
  cases e with
  | normal => simp only [jumpOf, Option.some.injEq] at hj; subst hj; exact ⟨_, _, run_endRound none n1, fin⟩
  | ret => simp only [jumpOf, Option.some.injEq] at hj; subst hj; exact ⟨_, _, run_endRound (some .ret) n1, fin⟩
  | exit x => simp only [jumpOf, Option.some.injEq] at hj; subst hj; exact ⟨_, _, run_endRound (some (.exit x)) n1, fin⟩
  | goto x => simp only [jumpOf, Option.some.injEq] at hj; subst hj; exact ⟨_, _, run_endRound (some (.goto x)) n1, fin⟩
  | panic x => simp [jumpOf] at hj
  | outgrown => simp [jumpOf] at hj
section
variable (P : Program) (ti : TI)
def dfrRun (cl : Cl) (ops : Array Oper) (s : St) (df : List DE) : Option (St × List DE) :=
  match ops.toList.getLast? with
  | some o =>
    match o.op with
    | .defer cc =>
      match cc.callee with
      | .value f =>
        match o.guard with
        | none =>
          match opsRun P ti cl ops ops.toList.dropLast s with
          | some s1 =>
            match ev s1.tmps f, evs s1.tmps cc.args.toList with
            | some (.fn (.func g) first cap), some as => some (⟨putD s1.tmps o.dst undefD, s1.h⟩, .call g (first ++ as ++ cap) :: df)
            | _, _ => none
          | none => none
        | some _ => none
      | _ => none
    | _ => none
  | none => none
def exec (cl : Cl) (top : Bool) : Nat → Code → St → List DE → Option (Exit × St × List DE)
  | 0, _, _, _ => none
  | f + 1, c, s, df =>
    match c with
    | .skip => some (.normal, s, df)
    | .label _ => some (.normal, s, df)
    | .region _ ops false =>
      match opsRun P ti cl ops ops.toList s with
      | some s' => some (.normal, s', df)
      | none => if top then (match dfrRun P ti cl ops s df with | some (s', df') => some (.normal, s', df') | none => none) else none
    | .region _ ops true => if drawOk ops then (match drawRun P ti cl eqD ops s with | some s' => some (.normal, s', df) | none => none) else none
    | .seq x y => match exec cl top f x s df with | some (.normal, s1, df1) => exec cl top f y s1 df1 | r => r
    | .cond c x y => match ev s.tmps c with | some (.v (.bool t)) => exec cl top f (if t then x else y) s df | _ => none
    | .block id c => match exec cl top f c s df with | some (e, s', df') => some (blockX id e, s', df') | none => none
    | .loop c => match exec cl top f c s df with | some (.normal, s1, df1) => exec cl top f (.loop c) s1 df1 | r => r
    | .exit id => some (.exit id, s, df)
    | .ret => some (.ret, s, df)
    | .rangeFunc g ps assign body =>
      if top then
        match ev s.tmps g with
        | some (.fn (.func gf) first cap) =>
          match cl (.fn gf) (first ++ [.yf (s.h.next + 1)] ++ cap) (loopHeap s ps assign body) with
          | some (_, h1) =>
            match h1.get (s.h.next + 1) with
            | some (.loop st pend _ _ _ _) =>
              if st = .busy then none else
              match pend with
              | none => some (.normal, ⟨s.tmps, h1.del (s.h.next + 1)⟩, .mark s.h.next :: df)
              | some j => exec cl top f j ⟨s.tmps, h1.del (s.h.next + 1)⟩ (.mark s.h.next :: df)
            | _ => none
          | none => none
        | _ => none
      else none
    | _ => none
theorem exec_ex (cl : Cl) (top : Bool) : ∀ (f : Nat) (c : Code) (s : St) (df : List DE) (e : Exit) (s' : St) (df' : List DE), exec P ti cl top f c s df = some (e, s', df') →
    Ex P ti cl eqD top (.code c) s df e s' df' ∧ ∀ b, c = .loop b → ∃ m, Ex P ti cl eqD top (.rounds m b) s df e s' df'
  | 0, c, s, df, e, s', df', h => by simp [exec] at h
  | f + 1, c, s, df, e, s', df', h => by
    cases c with
    | skip => simp only [exec, Option.some.injEq, Prod.mk.injEq] at h; obtain ⟨rfl, rfl, rfl⟩ := h; exact ⟨.skip, fun b hb => by cases hb⟩
    | label l => simp only [exec, Option.some.injEq, Prod.mk.injEq] at h; obtain ⟨rfl, rfl, rfl⟩ := h; exact ⟨.label, fun b hb => by cases hb⟩
    | region id ops d =>
      cases d with
      | false =>
        simp only [exec] at h
        split at h
        · rename_i s1 h1
          simp only [Option.some.injEq, Prod.mk.injEq] at h; obtain ⟨rfl, rfl, rfl⟩ := h
          exact ⟨.region h1, fun b hb => by cases hb⟩
        · split at h
          · rename_i htop
            split at h
            · rename_i s1 df1 hd
              simp only [Option.some.injEq, Prod.mk.injEq] at h; obtain ⟨rfl, rfl, rfl⟩ := h
              refine ⟨?_, fun b hb => by cases hb⟩
              unfold dfrRun at hd
              split at hd
              · rename_i o hl
                split at hd
                · rename_i cc ho
                  split at hd
                  · rename_i fo hcal
                    split at hd
                    · rename_i hgd
                      split at hd
                      · rename_i s1' h1
                        split at hd
                        · rename_i g first cap as hfv has
                          simp only [Option.some.injEq, Prod.mk.injEq] at hd; obtain ⟨rfl, rfl⟩ := hd
                          refine .dfr htop ?_ ho hcal hgd h1 hfv has
                          obtain ⟨ys, hys⟩ := List.getLast?_eq_some_iff.1 hl
                          rw [hys, List.dropLast_concat]
                        · simp at hd
                      · simp at hd
                    · simp at hd
                  · simp at hd
                · simp at hd
              · simp at hd
            · simp at h
          · simp at h
      | true =>
        simp only [exec] at h
        split at h
        · rename_i hok
          split at h
          · rename_i s1 h1
            simp only [Option.some.injEq, Prod.mk.injEq] at h; obtain ⟨rfl, rfl, rfl⟩ := h
            exact ⟨.draw hok h1, fun b hb => by cases hb⟩
          · simp at h
        · simp at h
    | seq x y =>
      simp only [exec] at h
      refine ⟨?_, fun b hb => by cases hb⟩
      split at h
      · rename_i s1 df1 h1
        exact .seq (exec_ex cl top f x s df _ s1 df1 h1).1 (exec_ex cl top f y s1 df1 e s' df' h).1
      · rename_i hne
        exact .seqX (exec_ex cl top f x s df e s' df' h).1 fun he => hne s' df' (by rw [h, he])
    | cond c x y =>
      simp only [exec] at h
      split at h
      · rename_i t hc; exact ⟨.cond hc (exec_ex cl top f _ s df e s' df' h).1, fun b hb => by cases hb⟩
      · simp at h
    | block id c =>
      simp only [exec] at h
      split at h
      · rename_i e1 s1 df1 h1
        simp only [Option.some.injEq, Prod.mk.injEq] at h; obtain ⟨rfl, rfl, rfl⟩ := h
        exact ⟨.block (exec_ex cl top f c s df e1 s1 df1 h1).1, fun b hb => by cases hb⟩
      · simp at h
    | loop c =>
      simp only [exec] at h
      have key : ∃ m, Ex P ti cl eqD top (.rounds m c) s df e s' df' := by
        split at h
        · rename_i s1 df1 h1
          obtain ⟨m, hm⟩ := (exec_ex cl top f (.loop c) s1 df1 e s' df' h).2 c rfl
          exact ⟨m + 1, .roundN (exec_ex cl top f c s df _ s1 df1 h1).1 hm⟩
        · rename_i hne
          exact ⟨1, .roundX (exec_ex cl top f c s df e s' df' h).1 fun he => hne s' df' (by rw [h, he])⟩
      obtain ⟨m, hm⟩ := key
      exact ⟨.loop hm, fun b hb => by cases hb; exact ⟨m, hm⟩⟩
    | exit id => simp only [exec, Option.some.injEq, Prod.mk.injEq] at h; obtain ⟨rfl, rfl, rfl⟩ := h; exact ⟨.exit, fun b hb => by cases hb⟩
    | ret => simp only [exec, Option.some.injEq, Prod.mk.injEq] at h; obtain ⟨rfl, rfl, rfl⟩ := h; exact ⟨.ret, fun b hb => by cases hb⟩
    | rangeFunc g ps assign body =>
      simp only [exec] at h
      refine ⟨?_, fun b hb => by cases hb⟩
      split at h
      · rename_i htop
        split at h
        · rename_i gf first cap hg
          split at h
          · rename_i d h1 hc
            split at h
            · rename_i st pend _ _ _ _ hl
              split at h
              · simp at h
              · rename_i hst
                split at h
                · simp only [Option.some.injEq, Prod.mk.injEq] at h; obtain ⟨rfl, rfl, rfl⟩ := h
                  exact .rangeN htop hg hc hl hst
                · exact .rangeX htop hg hc hl hst (exec_ex cl top f _ _ _ e s' df' h).1
            · simp at h
          · simp at h
        · simp at h
      · simp at h
    | _ => simp [exec] at h
def roundRun (cl : Cl) (f : Nat) (id : Nat) (ds : List D) (h : Heap) : Option (D × Heap) :=
  match h.get id with
  | some (.loop .ready none tm ps assign body) =>
    if ds.length = ps.length then
      match exec P ti cl false f assign ⟨setPs ps ds tm, h⟩ [] with
      | some (.normal, s1, df1) =>
        match s1.h.get id with
        | some (.loop .ready none tm1 ps1 as1 bd1) =>
          match exec P ti cl false f body ⟨s1.tmps, s1.h.set id (.loop .busy none tm1 ps1 as1 bd1)⟩ df1 with
          | some (e, s2, _) =>
            match s2.h.get id, jumpOf e with
            | some (.loop _ _ tm2 ps2 as2 bd2), some jump => some (.v (.bool jump.isNone), s2.h.set id (.loop (doneSt jump) jump tm2 ps2 as2 bd2))
            | _, _ => none
          | none => none
        | _ => none
      | _ => none
    else none
  | _ => none
def runF (sp : Cl) (dl : Dl) : Nat → Cl
  | 0 => fun _ _ _ => none
  | f + 1 => fun k ds h =>
    match sp k ds h with
    | some r => some r
    | none =>
      match k with
      | .yf id => roundRun P ti (runF sp dl f) (1000 * f) id ds h
      | .fn g =>
      match P.funcs[g]? with
      | some fn =>
        match fn.body with
        | some code =>
          if fn.name == "runtime.NumGoroutine" then none else
          match exec P ti (runF sp dl f) true (1000 * f) code (begin fn ds h) [] with
          | some (e, s', df) =>
            match e with
            | .normal | .ret =>
              match leaveD dl df s'.h with
              | some h' => (match resD ti fn ⟨s'.tmps, h'⟩ with | some d => some (d, h') | none => none)
              | none => none
            | _ => none
          | none => none
        | none => none
      | none => none
end
theorem runF_ok {P : Program} {ti : TI} {sp : Cl} {dl : Dl} (hm : P.follows .mixedOrders = true) (T : TOk P ti) (S : ClOk P sp) (DL : DlOk P dl) : ∀ f, ClOk P (runF P ti sp dl f)
  | 0 => fun g ds h d h' hr => by simp [runF] at hr
  | f + 1 => fun g ds h d h' hr => by
    have ih := runF_ok hm T S DL f
    simp only [runF] at hr
    split at hr
    · rename_i r hs
      simp only [Option.some.injEq] at hr; subst hr
      exact S _ _ _ _ _ hs
    · split at hr
      · rename_i id
        unfold roundRun at hr
        split at hr
        · rename_i tm ps assign body hg
          split at hr
          · rename_i hlen
            split at hr
            · rename_i s1 df1 h1
              split at hr
              · rename_i tm1 ps1 as1 bd1 hg1
                split at hr
                · rename_i e s2 df2 h2
                  split at hr
                  · rename_i hg2 hj
                    simp only [Option.some.injEq, Prod.mk.injEq] at hr; obtain ⟨rfl, rfl⟩ := hr
                    exact Y1.of_ex hm T ih eqD_eq hg hlen (exec_ex P ti _ _ _ _ _ _ _ _ _ h1).1 hg1 (exec_ex P ti _ _ _ _ _ _ _ _ _ h2).1 hg2 hj
                  · simp at hr
                · simp at hr
              · simp at hr
            · simp at hr
          · simp at hr
        · simp at hr
      · split at hr
        · rename_i fn hfn
          split at hr
          · rename_i code hb
            split at hr
            · simp at hr
            · rename_i hname
              split at hr
              · rename_i e s' df hx
                have hex := (exec_ex P ti _ _ _ _ _ _ _ _ _ hx).1
                have key : ∀ {e0 : Exit}, e0 = .normal ∨ e0 = .ret → e = e0 → (match leaveD dl df s'.h with | some h' => (match resD ti fn ⟨s'.tmps, h'⟩ with | some d => some (d, h') | none => none) | none => none) = some (d, h') → CC P (.fn _) ds h d h' := fun {e0} he0 he hr => by
                  subst he
                  split at hr
                  · rename_i h2 hl
                    split at hr
                    · rename_i d' hd
                      simp only [Option.some.injEq, Prod.mk.injEq] at hr; obtain ⟨rfl, rfl⟩ := hr
                      exact AC1.of_ex hm T ih eqD_eq DL hfn hb (by simpa using hname) hex he0 hl hd
                    · simp at hr
                  · simp at hr
                split at hr
                · exact key (.inl rfl) rfl hr
                · exact key (.inr rfl) rfl hr
                · simp at hr
              · simp at hr
          · simp at hr
        · simp at hr
end Go.Am
/-
  The abstract machine, part 23: what is known of a program's types, read off the program.
-/
namespace Go.Am
set_option linter.unusedSectionVars false
variable [GT]
def tiOf (P : Program) (t : TypeId) : Option TInf :=
  match P.underlying t with
  | some u =>
    match P.info? t with
    | some i =>
      match i.zero with
      | some z =>
        match ofVs z.cells.toList with
        | some l =>
          match ofV z with
          | some dz => if eqD dz (TInf.zeroD ⟨u, i.size, i.bytes, l⟩) && l.length == i.size then some ⟨u, i.size, i.bytes, l⟩ else none
          | none => none
        | none => none
      | none => none
    | none => none
  | none => none
theorem tiOf_ok (P : Program) : TOk P (tiOf P) := ⟨fun t x h => by
  unfold tiOf at h
  split at h
  · rename_i u hu
    split at h
    · rename_i i hi
      split at h
      · rename_i z hz
        split at h
        · rename_i l hl
          split at h
          · rename_i dz hdz
            split at h
            · rename_i hc
              simp only [Bool.and_eq_true, beq_iff_eq] at hc
              simp only [Option.some.injEq] at h; subst h
              exact ⟨hu, i, z, hi, rfl, rfl, hz, hl, by rw [hdz, eqD_eq _ _ hc.1], hc.2⟩
            · simp at h
          · simp at h
        · simp at h
      · simp at h
    · simp at h
  · simp at h⟩
end Go.Am
/-
  The abstract machine, part 24: freezing what a call made; a contract of a function over data alone holds over every heap.
-/
namespace Go.Am
set_option linter.unusedSectionVars false
variable [GT]
mutual
def noBox : D → Bool
  | .v _ | .str _ | .e0 | .any => true
  | .imm _ cs | .iptr cs | .agg cs | .tup cs => noBoxs cs
  | .fn _ a b => noBoxs a && noBoxs b
  | .iface _ d => noBox d
  | .sl .. | .ptr .. | .map _ | .yf _ => false
def noBoxs : List D → Bool
  | [] => true
  | d :: ds => noBox d && noBoxs ds
end
mutual
theorem V.move {c c' : Ctx} (hS : ∀ b, c.S b → c'.S b ∧ c'.w.heap[b]? = c.w.heap[b]?) : ∀ (d : D) (y : Value), noBox d = true → V c d y → V c' d y
  | .v x, y, _, h => h
  | .str s, y, _, h => h
  | .imm n cs, y, hn, h => by
    simp only [V, noBox] at *
    obtain ⟨a, cap, ys, h1, hc, h2, h3⟩ := h
    refine ⟨a, cap, ys, h1, hc, VS.move hS cs ys hn h2, h3.imp id ?_⟩
    rintro ⟨b, o, ha, hs, hh⟩
    exact ⟨b, o, ha, (hS b hs).1, hh.keep (hS b hs).2⟩
  | .iptr cs, y, hn, h => by
    simp only [V, noBox] at *
    obtain ⟨b, o, ys, h1, h2, h3⟩ := h
    exact ⟨b, o, ys, h1, VS.move hS cs ys hn h2, h3.imp id fun ⟨hs, hh⟩ => ⟨(hS b hs).1, hh.keep (hS b hs).2⟩⟩
  | .sl .., y, hn, h => by simp [noBox] at hn
  | .ptr .., y, hn, h => by simp [noBox] at hn
  | .map _, y, hn, h => by simp [noBox] at hn
  | .yf _, y, hn, h => by simp [noBox] at hn
  | .agg cs, y, hn, h => by
    simp only [V, noBox] at *
    obtain ⟨ys, h1, h2⟩ := h
    exact ⟨ys, h1, VS.move hS cs ys hn h2⟩
  | .tup cs, y, hn, h => by
    simp only [V, noBox] at *
    obtain ⟨ys, h1, h2⟩ := h
    exact ⟨ys, h1, VS.move hS cs ys hn h2⟩
  | .fn f first captured, y, hn, h => by
    simp only [V, noBox, Bool.and_eq_true] at *
    obtain ⟨xs, ys, h1, h2, h3⟩ := h
    exact ⟨xs, ys, h1, VS.move hS _ _ hn.1 h2, VS.move hS _ _ hn.2 h3⟩
  | .iface t d, y, hn, h => by
    simp only [V, noBox] at *
    obtain ⟨x, h1, h2⟩ := h
    exact ⟨x, h1, V.move hS d x hn h2⟩
  | .e0, y, _, h => by simpa only [V] using h
  | .any, y, _, h => by simp only [V]
theorem VS.move {c c' : Ctx} (hS : ∀ b, c.S b → c'.S b ∧ c'.w.heap[b]? = c.w.heap[b]?) : ∀ (ds : List D) (ys : List Value), noBoxs ds = true → VS c ds ys → VS c' ds ys
  | [], ys, _, h => h
  | d :: ds, ys, hn, h => by
    simp only [VS, noBoxs, Bool.and_eq_true] at *
    obtain ⟨y, ys', h1, h2, h3⟩ := h
    exact ⟨y, ys', h1, V.move hS d y hn.1 h2, VS.move hS ds ys' hn.2 h3⟩
end
mutual
def freeze (h : Heap) : Nat → D → Option D
  | 0, _ => none
  | f + 1, d =>
    match d with
    | .v x => some (.v x)
    | .str s => some (.str s)
    | .e0 => some .e0
    | .imm n cs => (freezes h f cs).map (.imm n)
    | .iptr cs => (freezes h f cs).map .iptr
    | .agg cs => (freezes h f cs).map .agg
    | .tup cs => (freezes h f cs).map .tup
    | .iface t d => (freeze h f d).map (.iface t)
    | .fn g a b => match freezes h f a, freezes h f b with | some a', some b' => some (.fn g a' b') | _, _ => none
    | .sl id off n _ es _ =>
      match h.get id with
      | some (.cells cs _) => if off + n * es ≤ cs.length then (freezes h f ((cs.drop off).take (n * es))).map (.imm n) else none
      | _ => none
    | .ptr id off =>
      match h.get id with
      | some (.cells cs _) => (freezes h f (cs.drop off)).map .iptr
      | _ => none
    | .map _ => none
    | .any => none
    | .yf _ => none
def freezes (h : Heap) : Nat → List D → Option (List D)
  | 0, _ => none
  | _ + 1,[] => some []
  | f + 1, d :: ds => match freeze h f d, freezes h f ds with | some d', some ds' => some (d' :: ds') | _, _ => none
end
def Ctx.frozen (c : Ctx) (h : Heap) : Ctx := { c with S := fun b => c.S b ∨ Owned c h b }
theorem frozen_keeps {c : Ctx} {h : Heap} (φ : Nat → Option (Nat × Nat)) : ∀ b, c.S b → ({ c.frozen h with φ := φ } : Ctx).S b ∧ ({ c.frozen h with φ := φ } : Ctx).w.heap[b]? = c.w.heap[b]? := fun _ hb => ⟨.inl hb, rfl⟩
mutual
theorem freeze_sound {c : Ctx} {h : Heap} (R : Rel c h) (φ : Nat → Option (Nat × Nat)) : ∀ (f : Nat) (d d' : D) (y : Value), freeze h f d = some d' → V c d y → V { c.frozen h with φ := φ } d' y ∧ noBox d' = true
  | 0, d, d', y, hd, _ => by simp [freeze] at hd
  | f + 1, d, d', y, hd, hv => by
    cases d with
    | v x => simp only [freeze, Option.some.injEq] at hd; subst hd; exact ⟨hv, rfl⟩
    | str s => simp only [freeze, Option.some.injEq] at hd; subst hd; exact ⟨hv, rfl⟩
    | e0 => simp only [freeze, Option.some.injEq] at hd; subst hd; exact ⟨by simpa only [V] using hv, rfl⟩
    | imm n cs =>
      simp only [freeze, Option.map_eq_some_iff] at hd
      obtain ⟨cs', h1, rfl⟩ := hd
      simp only [V] at hv ⊢
      obtain ⟨a, cap, ys, e1, hc, h2, h3⟩ := hv
      obtain ⟨k1, k2⟩ := freezes_sound R φ f cs cs' ys h1 h2
      exact ⟨⟨a, cap, ys, e1, hc, k1, h3.imp id fun ⟨b, o, ha, hs, hh⟩ => ⟨b, o, ha, .inl hs, hh⟩⟩, k2⟩
    | iptr cs =>
      simp only [freeze, Option.map_eq_some_iff] at hd
      obtain ⟨cs', h1, rfl⟩ := hd
      simp only [V] at hv ⊢
      obtain ⟨b, o, ys, e1, h2, h3⟩ := hv
      obtain ⟨k1, k2⟩ := freezes_sound R φ f cs cs' ys h1 h2
      exact ⟨⟨b, o, ys, e1, k1, h3.imp id fun ⟨hs, hh⟩ => ⟨.inl hs, hh⟩⟩, k2⟩
    | agg cs =>
      simp only [freeze, Option.map_eq_some_iff] at hd
      obtain ⟨cs', h1, rfl⟩ := hd
      simp only [V] at hv ⊢
      obtain ⟨ys, e1, h2⟩ := hv
      obtain ⟨k1, k2⟩ := freezes_sound R φ f cs cs' ys h1 h2
      exact ⟨⟨ys, e1, k1⟩, k2⟩
    | tup cs =>
      simp only [freeze, Option.map_eq_some_iff] at hd
      obtain ⟨cs', h1, rfl⟩ := hd
      simp only [V] at hv ⊢
      obtain ⟨ys, e1, h2⟩ := hv
      obtain ⟨k1, k2⟩ := freezes_sound R φ f cs cs' ys h1 h2
      exact ⟨⟨ys, e1, k1⟩, k2⟩
    | iface t d =>
      simp only [freeze, Option.map_eq_some_iff] at hd
      obtain ⟨d1, h1, rfl⟩ := hd
      simp only [V] at hv ⊢
      obtain ⟨x, e1, h2⟩ := hv
      obtain ⟨k1, k2⟩ := freeze_sound R φ f d d1 x h1 h2
      exact ⟨⟨x, e1, k1⟩, k2⟩
    | fn g a b =>
      simp only [freeze] at hd
      split at hd
      · rename_i a' b' ha hb
        simp only [Option.some.injEq] at hd; subst hd
        simp only [V] at hv ⊢
        obtain ⟨xs, ys, e1, h2, h3⟩ := hv
        obtain ⟨k1, k2⟩ := freezes_sound R φ f a a' xs ha h2
        obtain ⟨k3, k4⟩ := freezes_sound R φ f b b' ys hb h3
        exact ⟨⟨xs, ys, e1, k1, k3⟩, by simp only [noBox, k2, k4, Bool.and_self]⟩
      · simp at hd
    | sl id off n cap es ex =>
      simp only [freeze] at hd
      split at hd
      · rename_i cs ex' hg
        split at hd
        · rename_i hl
          simp only [Option.map_eq_some_iff] at hd
          obtain ⟨cs', h1, rfl⟩ := hd
          simp only [V] at hv
          obtain ⟨b, o, cap', e, z, p1, rfl, p3, p4, p5, p6, p7⟩ := hv
          obtain ⟨b', o', ys, z', q1, q2, q3, _, _⟩ := box_cells R hg
          rw [p1] at q1; injection q1 with q1; injection q1 with e1 e2; subst e1; subst e2
          have hvs : VS c ((cs.drop off).take (n * es)) ((ys.drop off).take (n * es)) := (q2.drop off).take _
          obtain ⟨k1, k2⟩ := freezes_sound R φ f _ cs' _ h1 hvs
          refine ⟨?_, k2⟩
          simp only [V]
          exact ⟨_, cap', _, rfl, Nat.le_trans p3 p4, k1, .inr ⟨b, o + off, rfl, .inr ⟨id, _, o, hg, p1⟩, q3.sub off _⟩⟩
        · simp at hd
      · simp at hd
    | ptr id off =>
      simp only [freeze] at hd
      split at hd
      · rename_i cs ex' hg
        simp only [Option.map_eq_some_iff] at hd
        obtain ⟨cs', h1, rfl⟩ := hd
        simp only [V] at hv
        obtain ⟨b, o, p1, rfl⟩ := hv
        obtain ⟨b', o', ys, z', q1, q2, q3, _, _⟩ := box_cells R hg
        rw [p1] at q1; injection q1 with q1; injection q1 with e1 e2; subst e1; subst e2
        obtain ⟨k1, k2⟩ := freezes_sound R φ f _ cs' _ h1 (q2.drop off)
        refine ⟨?_, k2⟩
        simp only [V]
        refine ⟨b, o + off, ys.drop off, rfl, k1, .inr ⟨.inr ⟨id, _, o, hg, p1⟩, ?_⟩⟩
        have := q3.sub off ys.length
        rwa [List.take_of_length_le (by simp)] at this
      · simp at hd
    | map id => simp [freeze] at hd
    | any => simp [freeze] at hd
    | yf id => simp [freeze] at hd
theorem freezes_sound {c : Ctx} {h : Heap} (R : Rel c h) (φ : Nat → Option (Nat × Nat)) : ∀ (f : Nat) (ds ds' : List D) (ys : List Value), freezes h f ds = some ds' → VS c ds ys → VS { c.frozen h with φ := φ } ds' ys ∧ noBoxs ds' = true
  | 0, ds, ds', ys, hd, _ => by simp [freezes] at hd
  | f + 1,[], ds', ys, hd, hv => by simp only [freezes, Option.some.injEq] at hd; subst hd; simp only [VS] at hv ⊢; exact ⟨hv, rfl⟩
  | f + 1, d :: ds, ds', ys, hd, hv => by
    simp only [freezes] at hd
    split at hd
    · rename_i d1 ds1 h1 h2
      simp only [Option.some.injEq] at hd; subst hd
      obtain ⟨y, ys', rfl, hy, hys⟩ := hv.inv
      obtain ⟨k1, k2⟩ := freeze_sound R φ f d d1 y h1 hy
      obtain ⟨k3, k4⟩ := freezes_sound R φ f ds ds1 ys' h2 hys
      exact ⟨VS.cons k1 k3, by simp only [noBoxs, k2, k4, Bool.and_self]⟩
    · simp at hd
end
def Pu (P : Program) (g : FuncId) (ds : List D) (d : D) : Prop := ∀ h, AC1 P g ds h d h
theorem pu_end {c : Ctx} {h0 : Heap} (R : Rel c h0) {c1 : Ctx} {h1 : Heap} (r1 : Rel c1 h1) (g1 : Grow { c with φ := fun _ => none } ⟨0,[]⟩ c1 h1) {f : Nat} {d d' : D} {v : Value} (hf : freeze h1 f d = some d') (v1 : V c1 d v) :
    ∃ c', c'.w = c1.w ∧ V c' d' v ∧ Rel c' h0 ∧ Grow c h0 c' h0 ∧ ∀ j, j < h0.next → c'.φ j = c.φ j := by
  obtain ⟨v2, n2⟩ := freeze_sound r1 c.φ f d d' v hf v1
  have hno : ∀ b, ¬ Owned { c with φ := fun _ => none } ⟨0,[]⟩ b := fun b ⟨id, box, o, hg, _⟩ => by simp [Heap.get, getL] at hg
  have hst : ∀ b, (c1.S b ∨ Owned c1 h1 b) → c.S b ∨ c.w.heap.size ≤ b := fun b hb => by
    rcases hb with hb | hb
    · rcases g1.stable b hb with h | h | h
      · exact .inl h
      · exact .inr h
      · exact absurd h (hno b)
    · rcases g1.own b hb with h | h
      · exact .inr h
      · exact absurd h (hno b)
  have hfr : ∀ b, b < c.w.heap.size → c1.w.heap[b]? = c.w.heap[b]? := fun b hb => g1.frame b hb (hno b)
  have K : Keeps c { c1.frozen h1 with φ := c.φ } := ⟨fun b hb => .inl (g1.keeps.S b hb), fun _ _ h => h, fun b hb => g1.keeps.cells b hb, fun b e z hz => g1.keeps.shape b e z hz⟩
  refine ⟨{ c1.frozen h1 with φ := c.φ }, rfl, v2, ⟨fun b hb => ?_, R.fresh, fun id box hg => ?_, R.inj, GT.kept K R.inv⟩, ⟨K, g1.os, g1.tape, g1.output, g1.size, Nat.le_refl _, fun b hb _ => hfr b hb, fun b ho => .inr ho, fun b hb => (hst b hb).imp id .inl⟩, fun _ _ => rfl⟩
  · rcases hb with hb | ⟨id, box, o, hg, hφ⟩
    · exact r1.size b hb
    · obtain ⟨b', o', p1, _, p3⟩ := r1.live id box hg
      rw [p1] at hφ; injection hφ with hφ; injection hφ with e1 _; subst e1
      exact p3.lt
  · obtain ⟨b, o, p1, p2, p3⟩ := R.live id box hg
    refine ⟨b, o, p1, fun hs => ?_, p3.keep K (hfr b p3.lt)⟩
    rcases hst b hs with h | h
    · exact p2 h
    · have := p3.lt; omega
theorem Pu.of_run {P : Program} {g : FuncId} {ds : List D} {d d' : D} {h1 : Heap} {f : Nat} (hn : noBoxs ds = true) (h : AC1 P g ds ⟨0,[]⟩ d h1) (hf : freeze h1 f d = some d') : Pu P g ds d' := fun h0 => by
  obtain ⟨hent, hcall⟩ := h
  refine ⟨hent, fun c vs R hvs => ?_⟩
  have R0 : Rel { c with φ := fun _ => none } ⟨0,[]⟩ := ⟨R.size, fun _ _ => rfl, fun id box hg => by simp [Heap.get, getL] at hg, fun id id' box box' b o o' hg => by simp [Heap.get, getL] at hg, GT.keep (c := c) (fun _ h => h) (fun _ _ => rfl) R.inv⟩
  have hvs0 : VS { c with φ := fun _ => none } ds vs := VS.move (c := c) (c' := { c with φ := fun _ => none }) (fun b hb => ⟨hb, rfl⟩) ds vs hn hvs
  refine (hcall _ vs R0 hvs0).mono ?_
  rintro e w' ⟨v, c1, rfl, rfl, v1, r1, g1, _⟩
  obtain ⟨c', k1, k2, k3, k4, k5⟩ := pu_end R r1 g1 hf v1
  exact ⟨v, c', rfl, k1, k2, k3, k4, k5⟩
end Go.Am
/-
  The abstract machine, part 25: a deferred call in a frame that returns, whose body may begin with a recover: there is nothing to recover.
-/
namespace Go.Am
set_option linter.unusedSectionVars false
variable [GT]
section
variable (P : Program) (ti : TI)
def recOp (tmps : List D) (o : Oper) : Option D :=
  match o.op with
  | .call c => match c.callee with | .builtin .recover => some (.v .nilIface) | _ => none
  | .typeAssert x _ t true => match ev tmps x, ti t with | some (.v .nilIface), some i => some (.tup [i.zeroD, .v (.bool false)]) | _, _ => none
  | _ => none
def opsRunS (ops : Array Oper) : List Nat → St → Option St
  | [], s => some s
  | i :: rest, s =>
    match ops[i]? with
    | none => none
    | some o =>
      match wantedD ops s.tmps o with
      | some true =>
        match recOp ti s.tmps o with
        | some d => opsRunS ops rest ⟨putD s.tmps o.dst d, s.h⟩
        | none =>
          match aop P ti s.tmps (bump s.h 1) s.h.next o with
          | some (d, h') => opsRunS ops rest ⟨putD s.tmps o.dst d, h'⟩
          | none => none
      | some false => opsRunS ops rest ⟨putD s.tmps o.dst undefD, s.h⟩
      | none => none
def recRun (f : Nat) : Dl := fun g ds h =>
  match P.funcs[g]? with
  | some fn =>
    match fn.body with
    | some (.seq (.region _ ops false) rest) =>
      if fn.name == "runtime.NumGoroutine" then none else
      match opsRunS P ti ops (List.range ops.size) (begin fn ds h) with
      | some s1 =>
        match exec P ti (fun _ _ _ => none) true f rest s1 [] with
        | some (.normal, s', []) => (match resD ti fn s' with | some _ => some s'.h | none => none)
        | some (.ret, s', []) => (match resD ti fn s' with | some _ => some s'.h | none => none)
        | _ => none
      | none => none
    | _ => none
  | none => none
end
section
variable {P : Program} {ti : TI} {n : Nat}
theorem typeAssert_nil (T : TOk P ti) {t xt : TypeId} {i : TInf} (hi : ti t = some i) (c : Ctx) : ∃ v, (Instr.typeAssert .nilIface xt t true).run P c.w = .ok v c.w ∧ V c (.tup [i.zeroD, .v (.bool false)]) v := by
  obtain ⟨hu, i', z, h1, _, _, hz, _, hzd, _⟩ := T.ok t i hi
  refine ⟨.tuple #[z, .bool false], ?_, ?_⟩
  · have hzr : (zeroValue t).run P c.w = .ok z c.w := run_zeroValue h1 hz c.w
    unfold Instr.typeAssert
    simp only [Sem.run_bind, run_underlying hu, Result.andThen]
    cases hx : i.u <;> simp [hzr]
  · simp only [V]
    exact ⟨[z, .bool false], rfl, VS.cons (ofV_sound c _ _ hzd) (VS.cons (by simp [V, free]) VS.nil)⟩
theorem opsRunS_wp (T : TOk P ti) (ops : Array Oper) (cs : List Frame) (hcs : recoverD cs = none) : ∀ (l : List Nat) (s s' : St) (c : Ctx) (a : Act) (Q : Exit → Act → List Frame → World → Prop), opsRunS P ti ops l s = some s' → Fit c s a →
    (∀ c' a', Fit c' s' a' → Grow c s.h c' s'.h → (∀ j, j < s.h.next → c'.φ j = c.φ j) → a'.defers = a.defers → Q .normal a' cs c'.w) → wpOpsSIn (WF none) n P ops Q l a cs c.w
  | [], s, s', c, a, Q, hr, hfit, hQ => by
    simp only [opsRunS, Option.some.injEq] at hr; subst hr
    exact hQ c a hfit (Grow.refl _ _) (fun _ _ => rfl) rfl
  | i :: l, s, s', c, a, Q, hr, hfit, hQ => by
    simp only [opsRunS] at hr
    simp only [wpOpsSIn]
    split at hr
    · simp at hr
    · rename_i o ho
      simp only [ho]
      refine ⟨fun _ _ => trivial, ?_⟩
      split at hr
      · rename_i hw
        rw [wanted_sound hfit.tmps hw, if_pos rfl]
        split at hr
        · rename_i d hrec
          have go : ∀ v, V c d v → wpOpsSIn (WF none) n P ops Q l (a.put o.dst v) cs c.w := fun v hv =>
            opsRunS_wp T ops cs hcs l _ s' c (a.put o.dst v) Q hr ⟨hfit.rel, put_sound hfit.tmps hv⟩ fun c2 a2 f2 g2 p2 df2 => hQ c2 a2 f2 g2 p2 (by rw [df2]; cases o.dst <;> rfl)
          unfold recOp at hrec
          split at hrec
          · rename_i cc hop
            split at hrec
            · rename_i hcal
              simp only [Option.some.injEq] at hrec; subst hrec
              have hrun : (execOp a.eval o).run P c.w = .ok .recover c.w := by
                unfold execOp
                simp only [hop, resolve, hcal]
                rfl
              simp only [hrun, hcs]
              exact go _ (by simp [V, free])
            · simp at hrec
          · rename_i x xt t hop
            split at hrec
            · rename_i ti' hx hti
              simp only [Option.some.injEq] at hrec; subst hrec
              have hv := ev_sound hfit.rel.inv hfit.tmps hx
              simp only [V] at hv
              obtain ⟨v, h1, h2⟩ := typeAssert_nil (P := P) (xt := xt) T hti c
              have hrun : (execOp a.eval o).run P c.w = .ok (.value v) c.w := by
                unfold execOp
                simp only [hop, hv.2, Sem.run_bind, h1, Result.andThen, Sem.run_pure]
              simp only [hrun]
              exact go v h2
            · simp at hrec
          · simp at hrec
        · split at hr
          · rename_i d h' hd
            obtain ⟨nx, v, c', h1, h2, h3, h4, h5, h6⟩ := aop_sound T hfit.rel.bump (hfit.rel.fresh _ (Nat.le_refl _)) (by simp [bump]) hfit.tmps hd
            have go : ∀ v', v' = v → wpOpsSIn (WF none) n P ops Q l (a.put o.dst v') cs c'.w := fun v' hv' => by
              subst hv'
              refine opsRunS_wp T ops cs hcs l _ s' c' (a.put o.dst v') Q hr ⟨h4, put_sound (VS.keep h5.keeps _ _ hfit.tmps) h3⟩ fun c2 a2 f2 g2 p2 df2 => ?_
              refine hQ c2 a2 f2 (h5.bump.trans g2) (fun j hj => ?_) (by rw [df2]; cases o.dst <;> rfl)
              have h1 : j < h'.next := by have := h5.next; simp only [bump] at this; omega
              rw [p2 j h1, h6 j (by omega)]
            rcases h2 with rfl | ⟨rfl, rfl⟩
            · simp only [h1]; exact go v rfl
            · simp only [h1]; exact go undef rfl
          · simp at hr
      · rename_i hw
        rw [wanted_sound hfit.tmps hw, if_neg (by simp)]
        exact opsRunS_wp T ops cs hcs l _ s' c (a.put o.dst undef) Q hr ⟨hfit.rel, put_sound hfit.tmps V.undef⟩ fun c2 a2 f2 g2 p2 df2 => hQ c2 a2 f2 g2 p2 (by rw [df2]; cases o.dst <;> rfl)
      · simp at hr
theorem recRun_ok (hm : P.follows .mixedOrders = true) (T : TOk P ti) (f : Nat) : DlOk P (recRun P ti f) := fun g ds h h' hr => by
  have C0 : ClOk P (fun _ _ _ => none) := fun k ds h d h' hx => by simp at hx
  unfold recRun at hr
  split at hr
  · rename_i fn hfn
    split at hr
    · rename_i id ops rest hb
      split at hr
      · simp at hr
      · rename_i hname
        split at hr
        · rename_i s1 h1
          have key : ∀ {e : Exit} {s' : St}, e = .normal ∨ e = .ret → exec P ti (fun _ _ _ => none) true f rest s1 [] = some (e, s', []) → (match resD ti fn s' with | some _ => some s'.h | none => none) = some h' → DC1 P g ds h h' := fun {e s'} he hx hres => by
            split at hres
            · rename_i d hd
              simp only [Option.some.injEq] at hres; subst hres
              refine ⟨by unfold entersB; rw [hfn]; simp only [hb, Option.isSome_some, Bool.true_and]; simpa using hname, fun c vs R hvs n => ?_⟩
              refine callsDIn_of_wpSIn hfn hb trivial fun c₀ cs hmode => ?_
              have hfit : Fit c (begin fn ds h) { tmps := vs.toArray ++ Array.replicate (fn.ntmps - vs.toArray.size) undef, defers := [] } := by
                refine ⟨R, ?_⟩
                simp only [begin, Array.toList_append, Array.toList_replicate, List.size_toArray]
                rw [hvs.length]
                exact hvs.append (VS.replicate V.undef _)
              have hrec : recoverD (c₀ :: cs) = none := by simp [recoverD, hmode]
              have hc0 : ({ c₀ with mode := .returning } : Frame) = c₀ := by rw [← hmode]
              refine wpSIn_seq (wpSIn_region (opsRunS_wp T ops (c₀ :: cs) hrec _ _ s1 c _ _ h1 hfit fun c1 a1 f1 g1 p1 d1 => ?_))
              refine wpSIn_of_wpIn rfl ((exec_ex P ti _ _ _ _ _ _ _ _ _ hx).1.sound (ro := none) (n := n) hm T C0 eqD_eq (fun _ => rfl) c1 a1 _ f1 (by rw [d1]; simp [DRs]) fun c2 a2 f2 g2 p2 d2 => ?_)
              simp only [DRs] at d2
              obtain ⟨v, e1, v1⟩ := resD_sound (P := P) T f2 hd
              have fin : a2.defers = [] ∧ ∃ u', (c₀ :: cs) = { c₀ with mode := u' } :: cs ∧ ∃ v, (results fn a2.tmps).run P c2.w = .ok v c2.w ∧ ∃ v_1 c', Ending.returned v = .returned v_1 ∧ u' = .returning ∧ c'.w = c2.w ∧ Rel c' s'.h ∧ Grow c h c' s'.h ∧ ∀ j, j < h.next → c'.φ j = c.φ j :=
                ⟨d2, .returning, by rw [hc0], v, e1, v, c2, rfl, rfl, rfl, f2.rel, g1.trans g2, fun j hj => by
                  have := g1.next
                  have hn0 : (begin fn ds h).h.next = h.next := rfl
                  rw [p2 j (by omega), p1 j hj]⟩
              rcases he with rfl | rfl
              · exact fin
              · exact fin
            · simp at hres
          split at hr
          · rename_i hx; exact key (.inl rfl) hx hr
          · rename_i hx; exact key (.inr rfl) hx hr
          · simp at hr
        · simp at hr
    · simp at hr
  · simp at hr
end
end Go.Am
/-
  The abstract machine, part 26: rules for walking code over data by hand; tables of contracts.
-/
namespace Go.Am
set_option linter.unusedSectionVars false
variable [GT]
abbrev Tab := List (FuncId × (List D → Option D))
def tabGet : Tab → FuncId → List D → Option D
  | [], _, _ => none
  | (g, f) :: l, g', ds => if g = g' then f ds else tabGet l g' ds
def clTab (t : Tab) : Cl := fun k ds h =>
  match k with
  | .fn g => (tabGet t g ds).map (·, h)
  | .yf _ => none
def TabOk (P : Program) (t : Tab) : Prop := ∀ p ∈ t, ∀ ds d, p.2 ds = some d → Pu P p.1 ds d
theorem TabOk.get {P : Program} : ∀ {t : Tab}, TabOk P t → ∀ {g ds d}, tabGet t g ds = some d → Pu P g ds d
  | [], _, g, ds, d, h => by simp [tabGet] at h
  | (g0, f) :: l, hok, g, ds, d, h => by
    simp only [tabGet] at h
    split at h
    · rename_i e; subst e; exact hok (g0, f) (by simp) ds d h
    · exact TabOk.get (fun p hp => hok p (by simp [hp])) h
theorem TabOk.cl {P : Program} {t : Tab} (h : TabOk P t) : ClOk P (clTab t) := fun k ds hp d h' hx => by
  cases k with
  | yf id => simp [clTab] at hx
  | fn g =>
    simp only [clTab, Option.map_eq_some_iff, Prod.mk.injEq] at hx
    obtain ⟨d', h1, rfl, rfl⟩ := hx
    exact h.get h1 _
theorem TabOk.nil {P : Program} : TabOk P [] := fun _ h => by simp at h
theorem TabOk.cons {P : Program} {t : Tab} {g : FuncId} {f : List D → Option D} (h1 : ∀ ds d, f ds = some d → Pu P g ds d) (h2 : TabOk P t) : TabOk P ((g, f) :: t) := fun p hp => by
  rcases List.mem_cons.1 hp with rfl | hp
  · exact h1
  · exact h2 p hp
open Classical in
noncomputable def eqC : D → D → Bool := fun a b => decide (a = b)
theorem eqC_eq : ∀ a b, eqC a b = true → a = b := fun a b h => by simpa [eqC] using h
def Wp (P : Program) (ti : TI) (t : Tab) (c : Code) (Q : Exit → St → Prop) (s : St) : Prop := ∃ e s', Ex P ti (clTab t) eqC true (.code c) s [] e s' [] ∧ Q e s'
def thenQ (K : St → Prop) (Q : Exit → St → Prop) : Exit → St → Prop
  | .normal, s => K s
  | e, s => Q e s
def blockQ (id : Nat) (Q : Exit → St → Prop) : Exit → St → Prop
  | .exit i, s => if i = id then Q .normal s else Q (.exit i) s
  | e, s => Q e s
section
variable {P : Program} {ti : TI} {t : Tab} {Q : Exit → St → Prop} {s : St}
theorem Wp.skip (h : Q .normal s) : Wp P ti t .skip Q s := ⟨_, _, .skip, h⟩
theorem Wp.exit {id : Nat} (h : Q (.exit id) s) : Wp P ti t (.exit id) Q s := ⟨_, _, .exit, h⟩
theorem Wp.ret (h : Q .ret s) : Wp P ti t .ret Q s := ⟨_, _, .ret, h⟩
theorem Wp.region {id : Nat} {ops : Array Oper} {s' : St} (hr : opsRun P ti (clTab t) ops ops.toList s = some s') (h : Q .normal s') : Wp P ti t (.region id ops false) Q s := ⟨_, _, .region hr, h⟩
theorem Wp.draw {id : Nat} {ops : Array Oper} {s' : St} (hok : drawOk ops = true) (hr : drawRun P ti (clTab t) eqC ops s = some s') (h : Q .normal s') : Wp P ti t (.region id ops true) Q s := ⟨_, _, .draw hok hr, h⟩
theorem Wp.seq {x y : Code} (h : Wp P ti t x (thenQ (Wp P ti t y Q) Q) s) : Wp P ti t (.seq x y) Q s := by
  obtain ⟨e, s1, h1, h2⟩ := h
  by_cases he : e = .normal
  · subst he
    obtain ⟨e', s', h3, h4⟩ := h2
    exact ⟨e', s', .seq h1 h3, h4⟩
  · refine ⟨e, s1, .seqX h1 he, ?_⟩
    cases e <;> first | exact absurd rfl he | exact h2
theorem Wp.cond {c : Operand} {x y : Code} {b : Bool} (hc : ev s.tmps c = some (.v (.bool b))) (h : Wp P ti t (if b then x else y) Q s) : Wp P ti t (.cond c x y) Q s :=
  let ⟨e, s', h1, h2⟩ := h; ⟨e, s', .cond hc h1, h2⟩
theorem Wp.block {id : Nat} {c : Code} (h : Wp P ti t c (blockQ id Q) s) : Wp P ti t (.block id c) Q s := by
  obtain ⟨e, s', h1, h2⟩ := h
  refine ⟨blockX id e, s', .block h1, ?_⟩
  cases e with
  | exit i =>
    simp only [blockQ] at h2
    simp only [blockX]
    split
    · rename_i hi; rwa [if_pos hi] at h2
    · rename_i hi; rwa [if_neg hi] at h2
  | _ => exact h2
theorem Wp.weak {c : Code} {s0 : St} (hle : Le s s0) (h : Wp P ti t c Q s0) : Wp P ti t c Q s :=
  let ⟨e, s', h1, h2⟩ := h; ⟨e, s', .weak hle h1, h2⟩
theorem Wp.mono {c : Code} {Q' : Exit → St → Prop} (h : Wp P ti t c Q s) (hq : ∀ e s, Q e s → Q' e s) : Wp P ti t c Q' s :=
  let ⟨e, s', h1, h2⟩ := h; ⟨e, s', h1, hq _ _ h2⟩
theorem Wp.loop {α : Type} {c : Code} (st : α → St) (I : α → Prop) (μ : α → Nat) (round : ∀ x, I x → Wp P ti t c (thenQ (fun s' => ∃ x', I x' ∧ μ x' < μ x ∧ Le s' (st x')) Q) (st x)) (x : α) (hx : I x) (hle : Le s (st x)) : Wp P ti t (.loop c) Q s := by
  have key : ∀ m x, μ x = m → I x → ∃ k e s', Ex P ti (clTab t) eqC true (.rounds k c) (st x) [] e s' [] ∧ Q e s' := by
    intro m
    induction m using Nat.strongRecOn with
    | _ m ih =>
      intro x hm hI
      obtain ⟨e, s1, h1, h2⟩ := round x hI
      by_cases he : e = .normal
      · subst he
        obtain ⟨x', hI', hlt, hle'⟩ := h2
        obtain ⟨k, e', s', h3, h4⟩ := ih (μ x') (by omega) x' rfl hI'
        exact ⟨k + 1, e', s', .roundN h1 (.weak hle' h3), h4⟩
      · refine ⟨1, e, s1, .roundX h1 he, ?_⟩
        cases e <;> first | exact absurd rfl he | exact h2
  obtain ⟨k, e, s', h1, h2⟩ := key _ x rfl hx
  exact ⟨e, s', .loop (.weak hle h1), h2⟩
theorem Pu.of_wp (hm : P.follows .mixedOrders = true) (T : TOk P ti) (K : TabOk P t) {g : FuncId} {fn : Func} {code : Code} {ds : List D} {d : D} (hg : P.funcs[g]? = some fn) (hb : fn.body = some code) (hn : (fn.name == "runtime.NumGoroutine") = false) (hd : noBoxs ds = true)
    (h : Wp P ti t code (fun e s' => (e = .normal ∨ e = .ret) ∧ ∃ d0 f, resD ti fn s' = some d0 ∧ freeze s'.h f d0 = some d) (begin fn ds ⟨0,[]⟩)) : Pu P g ds d := by
  obtain ⟨e, s', h1, he, d0, f, h2, h3⟩ := h
  exact Pu.of_run hd (AC1.of_ex (dl := fun _ _ _ => none) hm T K.cl eqC_eq (fun _ _ _ _ hx => by simp at hx) hg hb hn h1 he rfl h2) h3
def leT : List D → List D → Prop
  | [],[] => True
  | d :: ds, e :: es => (e = .any ∨ d = e) ∧ leT ds es
  | _, _ => False
theorem leT_sound {c : Ctx} : ∀ {ds es : List D} {ys : List Value}, leT ds es → VS c ds ys → VS c es ys
  | [],[], _, _, h => h
  | d :: ds, e :: es, ys, hl, h => by
    obtain ⟨y, ys', rfl, h1, h2⟩ := h.inv
    obtain ⟨h3, h4⟩ := hl
    refine VS.cons ?_ (leT_sound h4 h2)
    rcases h3 with rfl | rfl
    · simp only [V]
    · exact h1
  | [], _ :: _, _, hl, _ => hl.elim
  | _ :: _, [], _, hl, _ => hl.elim
theorem Le.of {s s0 : St} (ht : leT s.tmps s0.tmps) (hn : s.h.next ≤ s0.h.next) (hb : ∀ id box, s0.h.get id = some box → s.h.get id = some box) : Le s s0 := fun c _ hf =>
  ⟨c, rfl, ⟨⟨hf.rel.size, fun id hid => hf.rel.fresh id (Nat.le_trans hn hid), fun id box hg => hf.rel.live id box (hb id box hg), fun id id' bx bx' b o o' h1 h2 => hf.rel.inj id id' bx bx' b o o' (hb _ _ h1) (hb _ _ h2), hf.rel.inv⟩, leT_sound ht hf.tmps⟩,
    ⟨Keeps.refl c, rfl, rfl, rfl, Nat.le_refl _, hn, fun _ _ _ => rfl, fun _ ⟨id, box, o, h1, h2⟩ => .inr ⟨id, box, o, hb _ _ h1, h2⟩, fun _ h => .inl h⟩, fun _ _ => rfl⟩
end
end Go.Am
/-
  The abstract machine, part 27: a region that draws its order and leaves the boxes alone: walked like any other.
-/
namespace Go.Am
set_option linter.unusedSectionVars false
variable [GT]
def quietRun (P : Program) (ti : TI) (t : Tab) (ops : Array Oper) (h : Heap) : List Oper → List D → Option (List D)
  | [], tm => some tm
  | o :: l, tm =>
    match wantedD ops tm o with
    | some true =>
      match kind o with
      | .alloc => none
      | .write => match acallOp tm o with | some (.fn g, ds) => (match tabGet t g ds with | some d => quietRun P ti t ops h l (putD tm o.dst d) | none => none) | _ => none
      | _ => match aop P ti tm h 0 o with | some (d, _) => quietRun P ti t ops h l (putD tm o.dst d) | none => none
    | some false => quietRun P ti t ops h l (putD tm o.dst undefD)
    | none => none
def isWr (o : Oper) : Bool := match kind o with | .write => true | _ => false
def chainOk (ops : Array Oper) : Bool :=
  (List.range ops.size).all fun j => (List.range j).all fun i =>
    match ops[i]?, ops[j]? with
    | some oi, some oj => !(isWr oi && isWr oj) || anc (ancs ops.toList []) j i
    | _, _ => true
section
variable {P : Program} {ti : TI} {t : Tab}
theorem readOk_all {m : Nat} {tm : List D} {o : Oper} {d : D} : ∀ {l : List (Nat × Heap)}, (∀ p ∈ l, sameRead P ti eqC tm o d p.2 = true) → readOk P ti eqC m tm o d l = true
  | [], _ => rfl
  | (t, g) :: l, h => by
    simp only [readOk, Bool.and_eq_true, Bool.or_eq_true]
    exact ⟨h (t, g) (by simp), .inr (readOk_all fun p hp => h p (by simp [hp]))⟩
theorem promOk_all {h : Heap} {m : Nat} : ∀ {l : List (Nat × Oper × List D × D)}, (∀ p ∈ l, sameRead P ti eqC p.2.2.1 p.2.1 p.2.2.2 h = true) → promOk P ti eqC h m l = true
  | [], _ => rfl
  | (r, o, tm, d) :: l, hl => by
    simp only [promOk, Bool.and_eq_true, Bool.or_eq_true]
    exact ⟨.inr (hl (r, o, tm, d) (by simp)), promOk_all fun p hp => hl p (by simp [hp])⟩
theorem chain_spec {ops : Array Oper} (h : chainOk ops = true) {i j : Nat} {oi oj : Oper} (hi : ops[i]? = some oi) (hj : ops[j]? = some oj) (hlt : i < j) (h1 : kind oi = .write) (h2 : kind oj = .write) : ((ancs ops.toList []).getD j 0).testBit i = true := by
  unfold chainOk at h
  rw [List.all_eq_true] at h
  have hs := (Array.getElem?_eq_some_iff.1 hj).1
  have := h j (by simpa using hs)
  rw [List.all_eq_true] at this
  have := this i (by simpa using hlt)
  simpa [hi, hj, isWr, h1, h2, anc] using this
theorem quiet_run {ops : Array Oper} (hc : chainOk ops = true) (base : Nat) (g : Heap) : ∀ (l : List Oper) (j : Nat) (ds : DS) (tm' : List D), (∀ i o, l[i]? = some o → ops[j + i]? = some o) → ds.pend = [] → ds.al = [] → ds.hist ≠ [] →
    (∀ p ∈ ds.hist, p.2 = g ∧ (p.1 = 0 ∨ (p.1 ≤ j ∧ ∃ o, ops[p.1 - 1]? = some o ∧ kind o = .write))) → (∀ p ∈ ds.rd, sameRead P ti eqC p.2.2.1 p.2.1 p.2.2.2 g = true) →
    quietRun P ti t ops g l ds.tm = some tm' → ∃ ds', dRun P ti (clTab t) eqC ops base (ancs ops.toList []) l j ds = some ds' ∧ ds'.tm = tm' ∧ ds'.pend = [] ∧ ds'.hist ≠ [] ∧ ∀ p ∈ ds'.hist, p.2 = g
  | [], j, ds, tm', _, h1, _, h3, h4, _, hq => by
    simp only [quietRun, Option.some.injEq] at hq
    exact ⟨ds, rfl, hq, h1, h3, fun p hp => (h4 p hp).1⟩
  | o :: l, j, ds, tm', ho, h1, h2, h3, h4, h5, hq => by
    have hoj : ops[j]? = some o := by simpa using ho 0 o rfl
    have ho' : ∀ i o', l[i]? = some o' → ops[j + 1 + i]? = some o' := fun i o' hi => by
      have := ho (i + 1) o' (by simpa using hi)
      rw [show j + 1 + i = j + (i + 1) from by omega]; exact this
    have h4' : ∀ p ∈ ds.hist, p.2 = g ∧ (p.1 = 0 ∨ (p.1 ≤ j + 1 ∧ ∃ o, ops[p.1 - 1]? = some o ∧ kind o = .write)) := fun p hp => ⟨(h4 p hp).1, (h4 p hp).2.imp id fun ⟨x, y⟩ => ⟨by omega, y⟩⟩
    simp only [quietRun] at hq
    simp only [dRun, dstep]
    cases hw : wantedD ops ds.tm o with
    | none => rw [hw] at hq; simp at hq
    | some b =>
      rw [hw] at hq
      cases b with
      | false =>
        simp only at hq ⊢
        exact quiet_run hc base g l (j + 1) { ds with tm := putD ds.tm o.dst undefD } tm' ho' h1 h2 h3 h4' h5 hq
      | true =>
        simp only at hq ⊢
        cases hk : kind o with
        | pure =>
          have hkR : kindR ops o = .pure := kindR_p hk
          simp only [hk, hkR] at hq ⊢
          split at hq
          · rename_i d _ ha
            rw [aop_pure hk ha ⟨0,[]⟩ 0]
            exact quiet_run hc base g l (j + 1) { ds with tm := putD ds.tm o.dst d } tm' ho' h1 h2 h3 h4' h5 hq
          · simp at hq
        | read =>
          have hkR : kindR ops o = .read := kindR_r hk
          simp only [hk, hkR] at hq ⊢
          split at hq
          · rename_i d h0 ha
            have hsame : sameRead P ti eqC ds.tm o d g = true := by unfold sameRead; rw [ha]; simp [eqC]
            cases hh : ds.hist with
            | nil => exact absurd hh h3
            | cons p r =>
              obtain ⟨pt, pg⟩ := p
              have hpg : pg = g := (h4 (pt, pg) (by rw [hh]; simp)).1
              subst hpg
              simp only [ha]
              have hro : readOk P ti eqC ((ancs ops.toList []).getD j 0) ds.tm o d ((pt, pg) :: r) = true := readOk_all fun p hp => by rw [(h4 p (by rw [hh]; exact hp)).1]; exact hsame
              rw [if_pos hro]
              refine quiet_run hc base pg l (j + 1) _ tm' ho' h1 h2 (by simp) (by simp only; rw [← hh]; exact h4') (fun p hp => ?_) hq
              rcases List.mem_cons.1 hp with rfl | hp
              · exact hsame
              · exact h5 p hp
          · simp at hq
        | alloc => simp only [hk] at hq; simp at hq
        | write =>
          have hkR : kindR ops o = .write := kindR_write hk
          simp only [hk, hkR] at hq ⊢
          split at hq
          · rename_i gf as hac
            split at hq
            · rename_i d hd
              cases hh : ds.hist with
              | nil => exact absurd hh h3
              | cons p r =>
                obtain ⟨pt, pg⟩ := p
                obtain ⟨hpg, hpt⟩ := h4 (pt, pg) (by rw [hh]; simp)
                simp only at hpg hpt
                subst hpg
                have htag : (pt == 0 || ((ancs ops.toList []).getD j 0).testBit (pt - 1)) = true := by
                  rcases hpt with h0 | ⟨hle, o', ho1, ho2⟩
                  · simp [h0]
                  · by_cases h00 : pt = 0
                    · simp [h00]
                    · rw [chain_spec hc ho1 hoj (by omega) ho2 hk]; simp
                simp only [htag, if_true, h1, List.filter_nil]
                have hv : visH base [] pg = pg := rfl
                have hst : stepD P ti (clTab t) ds.tm pg (base + j) o = some (d, pg) := by
                  unfold stepD
                  simp only [hac, clTab, hd, Option.map_some]
                simp only [hv, hst]
                rw [if_pos (promOk_all h5)]
                refine quiet_run hc base pg l (j + 1) _ tm' ho' rfl h2 (by simp) (fun p hp => ?_) h5 hq
                rcases List.mem_cons.1 hp with rfl | hp
                · exact ⟨rfl, .inr ⟨Nat.le_refl _, o, by simpa using hoj, hk⟩⟩
                · exact h4' p (by rw [hh]; exact hp)
            · simp at hq
          · simp at hq
theorem quiet_draw {ops : Array Oper} (hc : chainOk ops = true) {s : St} {tm' : List D} (hq : quietRun P ti t ops (bump s.h ops.size) ops.toList s.tmps = some tm') : drawRun P ti (clTab t) eqC ops s = some ⟨tm', bump s.h ops.size⟩ := by
  obtain ⟨ds', h1, h2, h3, h4, h5⟩ := quiet_run (P := P) (ti := ti) (t := t) hc s.h.next (bump s.h ops.size) ops.toList 0 ⟨s.tmps, [(0, bump s.h ops.size)],[],[],[]⟩ tm' (fun i o hi => by simpa using hi) rfl rfl (by simp) (fun p hp => by simp at hp; subst hp; exact ⟨rfl, .inl rfl⟩) (fun p hp => by simp at hp) hq
  unfold drawRun
  rw [h1]
  cases hh : ds'.hist with
  | nil => exact absurd hh h4
  | cons p r =>
    obtain ⟨pt, pg⟩ := p
    have : pg = bump s.h ops.size := h5 (pt, pg) (by rw [hh]; simp)
    subst this
    simp only [h3, h2, hh]
    rfl
theorem Wp.quiet {id : Nat} {ops : Array Oper} {Q : Exit → St → Prop} {s : St} {tm' : List D} (hok : drawOk ops = true) (hc : chainOk ops = true) (hq : quietRun P ti t ops (bump s.h ops.size) ops.toList s.tmps = some tm') (h : Q .normal ⟨tm', bump s.h ops.size⟩) : Wp P ti t (.region id ops true) Q s :=
  Wp.draw hok (quiet_draw hc hq) h
end
end Go.Am
/-
  The abstract machine, part 28: walking code over data that is not known: rules, and an evaluation that asks for what it needs.
-/
namespace Go.Am
set_option linter.unusedSectionVars false
variable [GT]
abbrev i64 (n : Int) : D := .v (.int .i64 n)
abbrev boo (b : Bool) : D := .v (.bool b)
def rng (k : IntKind) (n : Int) : Prop := k.wrap n = n
def binW (P : Program) (op : BinOp) (t : TypeId) (ox oy : Operand) (a b : D) (K : D → Prop) : Prop :=
  match a, b with
  | .v (.int k m), .v (.int k' n) =>
    match op with
    | .lss => k = k' ∧ (m < n → K (boo true)) ∧ (¬ m < n → K (boo false))
    | .leq => k = k' ∧ (m ≤ n → K (boo true)) ∧ (¬ m ≤ n → K (boo false))
    | .gtr => k = k' ∧ (n < m → K (boo true)) ∧ (¬ n < m → K (boo false))
    | .geq => k = k' ∧ (n ≤ m → K (boo true)) ∧ (¬ n ≤ m → K (boo false))
    | .eql => k = k' ∧ (m = n → K (boo true)) ∧ (¬ m = n → K (boo false))
    | .neq => k = k' ∧ (m = n → K (boo false)) ∧ (¬ m = n → K (boo true))
    | .add => k = k' ∧ rng k (m + n) ∧ K (.v (.int k (m + n)))
    | .sub => k = k' ∧ rng k (m - n) ∧ K (.v (.int k (m - n)))
    | _ => match aBin P op t ox oy a b with | some d => K d | none => False
  | .str u, .str v =>
    match op with
    | .eql => (u = v → K (boo true)) ∧ (¬ u = v → K (boo false))
    | .neq => (u = v → K (boo false)) ∧ (¬ u = v → K (boo true))
    | _ => match aBin P op t ox oy a b with | some d => K d | none => False
  | _, _ => match aBin P op t ox oy a b with | some d => K d | none => False
theorem binW_sound {P : Program} {op : BinOp} {t : TypeId} {ox oy : Operand} {a b : D} {K : D → Prop} (h : binW P op t ox oy a b K) : ∃ d, aBin P op t ox oy a b = some d ∧ K d := by
  have fall : (match aBin P op t ox oy a b with | some d => K d | none => False) → ∃ d, aBin P op t ox oy a b = some d ∧ K d := fun h => by
    split at h
    · rename_i d hd; exact ⟨d, hd, h⟩
    · exact h.elim
  unfold binW at h
  split at h
  · rename_i k m k' n
    have cmp : ∀ (op : BinOp) (c : Bool), k = k' → (aBin P op t ox oy (.v (.int k m)) (.v (.int k n)) = some (boo c)) → K (boo c) → ∃ d, aBin P op t ox oy (.v (.int k m)) (.v (.int k' n)) = some d ∧ K d := fun op c e h1 h2 => by subst e; exact ⟨_, h1, h2⟩
    have bin : ∀ (op : BinOp) (r : Value), k = k' → (aBin P op t ox oy (.v (.int k m)) (.v (.int k n)) = some (.v r)) → K (.v r) → ∃ d, aBin P op t ox oy (.v (.int k m)) (.v (.int k' n)) = some d ∧ K d := fun op r e h1 h2 => by subst e; exact ⟨_, h1, h2⟩
    have base : ∀ (op : BinOp) (q : Sem Value) (r : Value), (∀ a b : Value, a = .int k m → b = .int k n → (do eqGuard op t ox oy a b; binOp op t a b : Sem Value) = (do eqGuard op t ox oy a b; q)) → (∀ a b : Value, a = .int k m → b = .int k n → eqGuard op t ox oy a b = pure ()) → q = pure r → ofV r = some (.v r) → aBin P op t ox oy (.v (.int k m)) (.v (.int k n)) = some (.v r) := fun op q r h1 h2 h3 h4 => by
      have e0 : nilCmp P op t (.v (.int k m)) (.v (.int k n)) = none := rfl
      unfold aBin
      simp only [e0, toV, toV1]
      rw [h1 _ _ rfl rfl, h2 _ _ rfl rfl, h3]
      exact h4
    have ck : ∀ op, (match op with | .lss | .leq | .gtr | .geq | .eql | .neq => True | _ => False) → binOp op t (.int k m) (.int k n) = Op.intCmp op m n := fun op ho => by
      cases op <;> simp only at ho <;> simp [binOp]
    have eg : ∀ op, eqGuard op t ox oy (.int k m) (.int k n) = pure () := fun op => by cases op <;> rfl
    have mk : ∀ (op : BinOp) (r : Bool), (match op with | .lss | .leq | .gtr | .geq | .eql | .neq => True | _ => False) → Op.intCmp op m n = pure (.bool r) → aBin P op t ox oy (.v (.int k m)) (.v (.int k n)) = some (boo r) := fun op r ho hc =>
      base op (Op.intCmp op m n) (.bool r) (fun a b ha hb => by subst ha; subst hb; rw [ck op ho]) (fun a b ha hb => by subst ha; subst hb; exact eg op) hc rfl
    split at h
    · obtain ⟨e, h1, h2⟩ := h
      by_cases hc : m < n
      · exact cmp _ true e (mk .lss true trivial (by simp [Op.intCmp, hc])) (h1 hc)
      · exact cmp _ false e (mk .lss false trivial (by simp [Op.intCmp, hc])) (h2 hc)
    · obtain ⟨e, h1, h2⟩ := h
      by_cases hc : m ≤ n
      · exact cmp _ true e (mk .leq true trivial (by simp [Op.intCmp, hc])) (h1 hc)
      · exact cmp _ false e (mk .leq false trivial (by simp [Op.intCmp, hc])) (h2 hc)
    · obtain ⟨e, h1, h2⟩ := h
      by_cases hc : n < m
      · exact cmp _ true e (mk .gtr true trivial (by simp [Op.intCmp, hc])) (h1 hc)
      · exact cmp _ false e (mk .gtr false trivial (by simp [Op.intCmp, hc])) (h2 hc)
    · obtain ⟨e, h1, h2⟩ := h
      by_cases hc : n ≤ m
      · exact cmp _ true e (mk .geq true trivial (by simp [Op.intCmp, hc])) (h1 hc)
      · exact cmp _ false e (mk .geq false trivial (by simp [Op.intCmp, hc])) (h2 hc)
    · obtain ⟨e, h1, h2⟩ := h
      by_cases hc : m = n
      · exact cmp _ true e (mk .eql true trivial (by simp [Op.intCmp, hc])) (h1 hc)
      · exact cmp _ false e (mk .eql false trivial (by simp only [Op.intCmp]; rw [beq_eq_false_iff_ne.2 hc])) (h2 hc)
    · obtain ⟨e, h1, h2⟩ := h
      by_cases hc : m = n
      · exact cmp _ false e (mk .neq false trivial (by simp [Op.intCmp, hc])) (h1 hc)
      · exact cmp _ true e (mk .neq true trivial (by simp only [Op.intCmp]; rw [bne_iff_ne.2 hc])) (h2 hc)
    · obtain ⟨e, h1, h2⟩ := h
      refine bin _ (.int k (m + n)) e (base .add (pure (.int k (m + n))) _ (fun a b ha hb => ?_) (fun a b ha hb => by subst ha; subst hb; rfl) rfl rfl) h2
      subst ha; subst hb
      simp [binOp, Op.intArith, show k.wrap (m + n) = m + n from h1]
    · obtain ⟨e, h1, h2⟩ := h
      refine bin _ (.int k (m - n)) e (base .sub (pure (.int k (m - n))) _ (fun a b ha hb => ?_) (fun a b ha hb => by subst ha; subst hb; rfl) rfl rfl) h2
      subst ha; subst hb
      simp [binOp, Op.intArith, show k.wrap (m - n) = m - n from h1]
    · exact fall h
  · rename_i u v
    split at h
    · by_cases hc : u = v
      · exact ⟨boo true, by simp [aBin, aStrOp, hc], h.1 hc⟩
      · exact ⟨boo false, by simp [aBin, aStrOp, hc], h.2 hc⟩
    · by_cases hc : u = v
      · exact ⟨boo false, by simp [aBin, aStrOp, hc], h.1 hc⟩
      · exact ⟨boo true, by simp [aBin, aStrOp, hc], h.2 hc⟩
    · exact fall h
  · exact fall h
def idxW (ti : TI) (t : TypeId) (x i : D) (K : D → Prop) : Prop :=
  match x, i with
  | .imm n cs, .v (.int _ m) =>
    match ti t with
    | some a =>
      match a.u with
      | .slice e => match ti e with | some ei => 0 < ei.size ∧ 0 ≤ m ∧ m.toNat < n ∧ cs.length = n * ei.size ∧ K (.iptr ((cs.drop (m.toNat * ei.size)).take ei.size)) | none => False
      | _ => False
    | none => False
  | .sl id off n _ es _, .v (.int _ m) =>
    match ti t with
    | some a =>
      match a.u with
      | .slice e => match ti e with | some ei => es = ei.size ∧ 0 ≤ m ∧ m.toNat < n ∧ K (.ptr id (off + m.toNat * es)) | none => False
      | _ => False
    | none => False
  | _, _ => match aIndexAddr ti t x i with | some d => K d | none => False
theorem idxW_sound {ti : TI} {t : TypeId} {x i : D} {K : D → Prop} (h : idxW ti t x i K) : ∃ d, aIndexAddr ti t x i = some d ∧ K d := by
  unfold idxW at h
  split at h
  · split at h
    · rename_i a ha
      split at h
      · rename_i e hu
        split at h
        · rename_i ei hei
          obtain ⟨h1, h2, h3, h4, h5⟩ := h
          refine ⟨_, ?_, h5⟩
          unfold aIndexAddr
          simp only [ha, asNat, h2, if_true, hu, hei]
          rw [if_pos ⟨h3, h4, h1⟩]
        · exact h.elim
      · exact h.elim
    · exact h.elim
  · split at h
    · rename_i a ha
      split at h
      · rename_i e hu
        split at h
        · rename_i ei hei
          obtain ⟨h1, h2, h3, h5⟩ := h
          refine ⟨_, ?_, h5⟩
          unfold aIndexAddr
          simp only [ha, asNat, h2, if_true, hu, hei]
          rw [if_pos ⟨h3, h1⟩]
        · exact h.elim
      · exact h.elim
    · exact h.elim
  · split at h
    · rename_i d hd; exact ⟨d, hd, h⟩
    · exact h.elim
def loadW (ti : TI) (h : Heap) (t : TypeId) (x : D) (K : D → Prop) : Prop :=
  match x with
  | .iptr cs =>
    match ti t with
    | some a => if aggU a.u then a.size ≤ cs.length ∧ K (.agg (cs.take a.size)) else a.size ≤ cs.length ∧ ∃ d, cs.take a.size = [d] ∧ K d
    | none => False
  | .ptr id off =>
    match ti t with
    | some a =>
      match h.get id with
      | some (.cells cs _) => if aggU a.u then off + a.size ≤ cs.length ∧ K (.agg ((cs.drop off).take a.size)) else off + a.size ≤ cs.length ∧ ∃ d, (cs.drop off).take a.size = [d] ∧ K d
      | _ => False
    | none => False
  | _ => False
theorem loadW_sound {ti : TI} {h : Heap} {t : TypeId} {x : D} {K : D → Prop} (hl : loadW ti h t x K) : ∃ d, aLoad ti h t x = some d ∧ K d := by
  unfold loadW at hl
  split at hl
  · rename_i cs
    split at hl
    · rename_i a ha
      unfold aLoad
      simp only [ha]
      split at hl
      · rename_i hg
        rw [if_pos hl.1]
        exact ⟨_, by unfold ofCells; rw [if_pos hg], hl.2⟩
      · rename_i hg
        obtain ⟨h1, d, h2, h3⟩ := hl
        rw [if_pos h1]
        exact ⟨d, by unfold ofCells; rw [if_neg hg, h2], h3⟩
    · exact hl.elim
  · rename_i id off
    split at hl
    · rename_i a ha
      split at hl
      · rename_i cs _ hgt
        unfold aLoad
        simp only [ha, hgt]
        split at hl
        · rename_i hg
          rw [if_pos hl.1]
          exact ⟨_, by unfold ofCells; rw [if_pos hg], hl.2⟩
        · rename_i hg
          obtain ⟨h1, d, h2, h3⟩ := hl
          rw [if_pos h1]
          exact ⟨d, by unfold ofCells; rw [if_neg hg, h2], h3⟩
      · exact hl.elim
    · exact hl.elim
  · exact hl.elim
def stepW (P : Program) (ti : TI) (tm : List D) (h : Heap) (id : Nat) (o : Oper) (K : D → Heap → Prop) : Prop :=
  match o.op with
  | .binOp op t x y _ => match ev tm x, ev tm y with | some a, some b => binW P op t x y a b (fun d => K d h) | _, _ => False
  | .indexAddr t x i => match ev tm x, ev tm i with | some a, some b => idxW ti t a b (fun d => K d h) | _, _ => False
  | .load t x => match ev tm x with | some a => loadW ti h t a (fun d => K d h) | none => False
  | .call c =>
    match c.callee with
    | .value _ => match acallOp tm o with | some (.fn g, ds) => ∃ d, Pu P g ds d ∧ K d h | _ => False
    | _ => match aop P ti tm h id o with | some (d, h') => K d h' | none => False
  | _ => match aop P ti tm h id o with | some (d, h') => K d h' | none => False
theorem stepW_sound {P : Program} {ti : TI} {tm : List D} {h : Heap} {id : Nat} {o : Oper} {K : D → Heap → Prop} (hs : stepW P ti tm h id o K) :
    ∃ d h', K d h' ∧ ((acallOp tm o = none ∧ aop P ti tm h id o = some (d, h')) ∨ (h' = h ∧ ∃ g ds, acallOp tm o = some (.fn g, ds) ∧ Pu P g ds d)) := by
  have nocall : (∀ c f, o.op = .call c → c.callee ≠ .value f) → acallOp tm o = none := fun hn => by
    unfold acallOp
    split
    · rename_i c hc
      split
      · rename_i f hf; exact absurd hf (hn c f hc)
      · rfl
    · rfl
  unfold stepW at hs
  split at hs
  · rename_i op t x y _ ho
    split at hs
    · rename_i a b hx hy
      obtain ⟨d, h1, h2⟩ := binW_sound hs
      exact ⟨d, h, h2, .inl ⟨nocall (fun c f hc => by rw [ho] at hc; cases hc), by unfold aop; simp only [ho, hx, hy, h1, Option.map_some]⟩⟩
    · exact hs.elim
  · rename_i t x i ho
    split at hs
    · rename_i a b hx hy
      obtain ⟨d, h1, h2⟩ := idxW_sound hs
      exact ⟨d, h, h2, .inl ⟨nocall (fun c f hc => by rw [ho] at hc; cases hc), by unfold aop; simp only [ho, hx, hy, h1, Option.map_some]⟩⟩
    · exact hs.elim
  · rename_i t x ho
    split at hs
    · rename_i a hx
      obtain ⟨d, h1, h2⟩ := loadW_sound hs
      exact ⟨d, h, h2, .inl ⟨nocall (fun c f hc => by rw [ho] at hc; cases hc), by unfold aop; simp only [ho, hx, h1, Option.map_some]⟩⟩
    · exact hs.elim
  · rename_i c ho
    split at hs
    · split at hs
      · rename_i g ds hac
        obtain ⟨d, h1, h2⟩ := hs
        exact ⟨d, h, h2, .inr ⟨rfl, g, ds, hac, h1⟩⟩
      · exact hs.elim
    · rename_i hnv
      split at hs
      · rename_i d h' ha
        exact ⟨d, h', hs, .inl ⟨nocall (fun c' f hc hf => by rw [ho] at hc; injection hc with hc; subst hc; exact hnv f hf), ha⟩⟩
      · exact hs.elim
  · rename_i h1 h2 h3 h4
    split at hs
    · rename_i d h' ha
      exact ⟨d, h', hs, .inl ⟨nocall (fun c f hc => absurd hc (h4 c)), ha⟩⟩
    · exact hs.elim
def opsW (P : Program) (ti : TI) (ops : Array Oper) : List Oper → St → (St → Prop) → Prop
  | [], s, K => K s
  | o :: l, s, K =>
    match wantedD ops s.tmps o with
    | some true => stepW P ti s.tmps (bump s.h 1) s.h.next o (fun d h' => opsW P ti ops l ⟨putD s.tmps o.dst d, h'⟩ K)
    | some false => opsW P ti ops l ⟨putD s.tmps o.dst undefD, s.h⟩ K
    | none => False
section
variable {P : Program} {ti : TI}
theorem opsW_wp {ro : Option Nat} {n : Nat} (T : TOk P ti) (ops : Array Oper) : ∀ (l : List Oper) (s : St) (K : St → Prop) (c : Ctx) (a : Act) (Q : Exit → Act → World → Prop), opsW P ti ops l s K → Fit c s a →
    (∀ s' c' a', K s' → Fit c' s' a' → Grow c s.h c' s'.h → (∀ j, j < s.h.next → c'.φ j = c.φ j) → a'.defers = a.defers → Q .normal a' c'.w) → wpListIn (WF ro) n P ops Q l a c.w
  | [], s, K, c, a, Q, hr, hfit, hQ => hQ s c a hr hfit (Grow.refl _ _) (fun _ _ => rfl) rfl
  | o :: l, s, K, c, a, Q, hr, hfit, hQ => by
    simp only [opsW] at hr
    simp only [wpListIn]
    split at hr
    · rename_i hw
      rw [wanted_sound hfit.tmps hw, if_pos rfl]
      obtain ⟨d, h', hk, hcase⟩ := stepW_sound hr
      have hstep : ∃ cl : Cl, ClOk P cl ∧ stepD P ti cl s.tmps (bump s.h 1) s.h.next o = some (d, h') := by
        rcases hcase with ⟨h1, h2⟩ | ⟨h1, g, ds, h2, h3⟩
        · exact ⟨fun _ _ _ => none, fun k ds h d h' hx => by simp at hx, by unfold stepD; rw [h1]; exact h2⟩
        · subst h1
          refine ⟨fun k ds' h => open Classical in if k = .fn g ∧ ds' = ds then some (d, h) else none, fun k ds' h0 d' h' hx => ?_, ?_⟩
          · simp only at hx
            split at hx
            · rename_i e; obtain ⟨rfl, rfl⟩ := e
              simp only [Option.some.injEq, Prod.mk.injEq] at hx; obtain ⟨rfl, rfl⟩ := hx
              exact h3 _
            · simp at hx
          · unfold stepD
            rw [h2]
            simp
      obtain ⟨cl, hcl, hd⟩ := hstep
      refine stepD_wp T hcl hfit.rel.bump (hfit.rel.fresh _ (Nat.le_refl _)) (by simp [bump]) hfit.tmps hd fun v c' k1 k2 k3 k4 => ?_
      refine opsW_wp T ops l _ K c' (a.put o.dst v) Q hk ⟨k2, put_sound (VS.keep k3.keeps _ _ hfit.tmps) k1⟩ fun s2 c2 a2 ks f2 g2 p2 df2 => ?_
      refine hQ s2 c2 a2 ks f2 (k3.bump.trans g2) (fun j hj => ?_) (by rw [df2]; cases o.dst <;> rfl)
      have h1 : j < h'.next := by have := k3.next; simp only [bump] at this; omega
      rw [p2 j h1, k4 j (by simp only [bump]; omega) (by omega)]
    · rename_i hw
      rw [wanted_sound hfit.tmps hw, if_neg (by simp)]
      refine ⟨fun _ _ => trivial, opsW_wp T ops l _ K c (a.put o.dst undef) Q hr ⟨hfit.rel, put_sound hfit.tmps V.undef⟩ fun s2 c2 a2 ks f2 g2 p2 df2 => ?_⟩
      exact hQ s2 c2 a2 ks f2 g2 p2 (by rw [df2]; cases o.dst <;> rfl)
    · exact hr.elim
end
end Go.Am
/-
  The abstract machine, part 29: walking code over data that is not known: the rules.
-/
namespace Go.Am
set_option linter.unusedSectionVars false
variable [GT]
def SW (P : Program) (code : Code) (Q : Exit → St → Prop) (s : St) : Prop :=
  ∀ (c : Ctx) (a : Act) (R : Exit → Act → World → Prop), Fit c s a → (∀ e s' c' a', Q e s' → Fit c' s' a' → Grow c s.h c' s'.h → (∀ j, j < s.h.next → c'.φ j = c.φ j) → a'.defers = a.defers → R e a' c'.w) → code.wpIn (WF none) 0 P R a c.w
section
variable {P : Program} {ti : TI} {Q : Exit → St → Prop} {s : St}
theorem SW.skip (h : Q .normal s) : SW P .skip Q s := fun c a _ hf hR => wpIn_skip (hR _ s c a h hf (Grow.refl _ _) (fun _ _ => rfl) rfl)
theorem SW.exit {id : Nat} (h : Q (.exit id) s) : SW P (.exit id) Q s := fun c a _ hf hR => wpIn_exit (hR _ s c a h hf (Grow.refl _ _) (fun _ _ => rfl) rfl)
theorem SW.ret (h : Q .ret s) : SW P .ret Q s := fun c a _ hf hR => wpIn_ret (hR _ s c a h hf (Grow.refl _ _) (fun _ _ => rfl) rfl)
theorem SW.region (T : TOk P ti) {id : Nat} {ops : Array Oper} (h : opsW P ti ops ops.toList s (Q .normal)) : SW P (.region id ops false) Q s := fun c a _ hf hR =>
  wpIn_region_list (opsW_wp T ops _ s _ c a _ h hf fun s' c' a' hk f1 g1 p1 d1 => hR _ s' c' a' hk f1 g1 p1 d1)
theorem SW.seq {x y : Code} (h : SW P x (thenQ (SW P y Q) Q) s) : SW P (.seq x y) Q s := fun c a R hf hR => by
  refine wpIn_seq (h c a _ hf fun e s1 c1 a1 hq f1 g1 p1 d1 => ?_)
  cases e with
  | normal =>
    refine hq c1 a1 R f1 fun e s2 c2 a2 hq2 f2 g2 p2 d2 => hR e s2 c2 a2 hq2 f2 (g1.trans g2) (fun j hj => ?_) (d2.trans d1)
    have := g1.next
    rw [p2 j (by omega), p1 j hj]
  | _ => exact hR _ s1 c1 a1 hq f1 g1 p1 d1
theorem SW.cond {o : Operand} {x y : Code} {b : Bool} (hc : ev s.tmps o = some (.v (.bool b))) (h : SW P (if b then x else y) Q s) : SW P (.cond o x y) Q s := fun c a R hf hR => by
  have hb := ev_sound hf.rel.inv hf.tmps hc
  simp only [V] at hb
  exact wpIn_cond hb.2 (h c a R hf hR)
theorem SW.condT {o : Operand} {x y : Code} (hc : ev s.tmps o = some (.v (.bool true))) (h : SW P x Q s) : SW P (.cond o x y) Q s := SW.cond hc h
theorem SW.condF {o : Operand} {x y : Code} (hc : ev s.tmps o = some (.v (.bool false))) (h : SW P y Q s) : SW P (.cond o x y) Q s := SW.cond hc h
theorem SW.block {id : Nat} {x : Code} (h : SW P x (blockQ id Q) s) : SW P (.block id x) Q s := fun c a R hf hR => by
  refine wpIn_block (h c a _ hf fun e s1 c1 a1 hq f1 g1 p1 d1 => ?_)
  cases e with
  | exit i =>
    simp only [blockQ] at hq
    simp only [Exit.inBlock]
    split
    · rename_i hi; rw [if_pos hi] at hq; exact hR _ s1 c1 a1 hq f1 g1 p1 d1
    · rename_i hi; rw [if_neg hi] at hq; exact hR _ s1 c1 a1 hq f1 g1 p1 d1
  | _ => exact hR _ s1 c1 a1 hq f1 g1 p1 d1
theorem SW.weak {x : Code} {s0 : St} (hle : Le s s0) (h : SW P x Q s0) : SW P x Q s := fun c a R hf hR => by
  obtain ⟨c0, e0, f0, g0, p0⟩ := hle c a hf
  rw [← e0]
  refine h c0 a R f0 fun e s1 c1 a1 hq f1 g1 p1 d1 => hR e s1 c1 a1 hq f1 (g0.trans g1) (fun j hj => ?_) d1
  have := g0.next
  rw [p1 j (by omega), p0 j hj]
theorem SW.mono {x : Code} {Q' : Exit → St → Prop} (h : SW P x Q s) (hq : ∀ e s, Q e s → Q' e s) : SW P x Q' s := fun c a R hf hR => h c a R hf fun e s1 c1 a1 q => hR e s1 c1 a1 (hq e s1 q)
theorem SW.loop {α : Type} {x : Code} (st : α → St) (I : α → Prop) (μ : α → Nat) (round : ∀ y, I y → SW P x (thenQ (fun s' => ∃ y', I y' ∧ μ y' < μ y ∧ Le s' (st y')) Q) (st y)) (y : α) (hy : I y) (hle : Le s (st y)) : SW P (.loop x) Q s := by
  refine SW.weak hle ?_
  intro c a R hf hR
  have key : ∀ m y, μ y < m → I y → ∀ c a R, Fit c (st y) a → (∀ e s' c' a', Q e s' → Fit c' s' a' → Grow c (st y).h c' s'.h → (∀ j, j < (st y).h.next → c'.φ j = c.φ j) → a'.defers = a.defers → R e a' c'.w) → Code.roundsIn (WF none) 0 P x R m a c.w := by
    intro m
    induction m with
    | zero => intro y hlt; omega
    | succ m ih =>
      intro y hlt hI c a R hf hR
      refine round y hI c a _ hf fun e s1 c1 a1 hq f1 g1 p1 d1 => ?_
      cases e with
      | normal =>
        obtain ⟨y', hI', hlt', hle'⟩ := hq
        obtain ⟨c2, e2, f2, g2, p2⟩ := hle' c1 a1 f1
        show Code.roundsIn (WF none) 0 P x R m a1 c1.w
        rw [← e2]
        refine ih y' (by omega) hI' c2 a1 R f2 fun e s3 c3 a3 hq3 f3 g3 p3 d3 => hR e s3 c3 a3 hq3 f3 ((g1.trans g2).trans g3) (fun j hj => ?_) (d3.trans d1)
        have h1 := g1.next
        have h2 := g2.next
        rw [p3 j (by omega), p2 j (by omega), p1 j hj]
      | _ => exact hR _ s1 c1 a1 hq f1 g1 p1 d1
  exact wpIn_loop_rounds (μ y + 1) (key _ y (Nat.lt_succ_self _) hy c a R hf hR)
theorem Pu.of_sw (T : TOk P ti) {g : FuncId} {fn : Func} {code : Code} {ds : List D} {d : D} (hg : P.funcs[g]? = some fn) (hb : fn.body = some code) (hn : (fn.name == "runtime.NumGoroutine") = false) (hd : noBoxs ds = true)
    (h : SW P code (fun e s' => (e = .normal ∨ e = .ret) ∧ ∃ d0 f, resD ti fn s' = some d0 ∧ freeze s'.h f d0 = some d) (begin fn ds ⟨0,[]⟩)) : Pu P g ds d := by
  intro h0
  refine ⟨by unfold entersB; rw [hg]; simp [hb, hn], fun c vs R hvs => ?_⟩
  refine (callsIn_wide (n := 0)).1 (callsIn_of_wp hg hb trivial ?_)
  have R0 : Rel { c with φ := fun _ => none } ⟨0,[]⟩ := ⟨R.size, fun _ _ => rfl, fun id box hg => by simp [Heap.get, getL] at hg, fun id id' box box' b o o' hg => by simp [Heap.get, getL] at hg, GT.keep (c := c) (fun _ h => h) (fun _ _ => rfl) R.inv⟩
  have hvs0 : VS { c with φ := fun _ => none } ds vs := VS.move (c := c) (c' := { c with φ := fun _ => none }) (fun b hb => ⟨hb, rfl⟩) ds vs hd hvs
  have hfit : Fit { c with φ := fun _ => none } (begin fn ds ⟨0,[]⟩) { tmps := vs.toArray ++ Array.replicate (fn.ntmps - vs.toArray.size) undef, defers := [] } := by
    refine ⟨R0, ?_⟩
    simp only [begin, Array.toList_append, Array.toList_replicate, List.size_toArray]
    rw [hvs.length]
    exact hvs0.append (VS.replicate V.undef _)
  refine h { c with φ := fun _ => none } _ _ hfit fun e s' c1 a' hq f1 g1 p1 d1 => ?_
  obtain ⟨he, d0, f, hr, hf⟩ := hq
  obtain ⟨v, e1, v1⟩ := resD_sound (P := P) T f1 hr
  obtain ⟨c', k1, k2, k3, k4, k5⟩ := pu_end R f1.rel g1 hf v1
  rcases he with rfl | rfl
  · exact ⟨d1, v, e1, v, c', rfl, k1, k2, k3, k4, k5⟩
  · exact ⟨d1, v, e1, v, c', rfl, k1, k2, k3, k4, k5⟩
end
end Go.Am
/-
  The abstract machine, part 30: walking a region that draws its order over data that is not known.
-/
namespace Go.Am
set_option linter.unusedSectionVars false
variable [GT]
abbrev Memo := List (FuncId × List D × D)
def frW : Memo → FuncId → List D → D → Prop
  | [], _, _, _ => True
  | (g', ds', d') :: m, g, ds, d => (g = g' → ds = ds' → d' = d) ∧ frW m g ds d
open Classical in
noncomputable def lkM : Memo → FuncId → List D → Option D
  | [], _, _ => none
  | (g, as, d) :: m, g', ds => if g = g' ∧ as = ds then some d else lkM m g' ds
noncomputable def clM (m : Memo) : Cl := fun k ds h =>
  match k with
  | .fn g => (lkM m g ds).map (·, h)
  | .yf _ => none
def FunM (m : Memo) : Prop := ∀ g ds d d', (g, ds, d) ∈ m → (g, ds, d') ∈ m → d = d'
theorem lkM_mem : ∀ {m : Memo} {g : FuncId} {ds : List D} {d : D}, lkM m g ds = some d → (g, ds, d) ∈ m
  | [], _, _, _, h => by simp [lkM] at h
  | (g0, as, d0) :: m, g, ds, d, h => by
    simp only [lkM] at h
    split at h
    · rename_i e; obtain ⟨rfl, rfl⟩ := e; simp only [Option.some.injEq] at h; subst h; simp
    · exact List.mem_cons_of_mem _ (lkM_mem h)
theorem lkM_get : ∀ {m : Memo}, FunM m → ∀ {g : FuncId} {ds : List D} {d : D}, (g, ds, d) ∈ m → lkM m g ds = some d
  | [], _, _, _, _, h => by simp at h
  | (g0, as, d0) :: m, hF, g, ds, d, h => by
    simp only [lkM]
    split
    · rename_i e; obtain ⟨rfl, rfl⟩ := e
      rw [hF g0 as d0 d (by simp) h]
    · rename_i hne
      rcases List.mem_cons.1 h with h | h
      · simp only [Prod.mk.injEq] at h; exact absurd ⟨h.1.symm, h.2.1.symm⟩ hne
      · exact lkM_get (fun g ds d d' h1 h2 => hF g ds d d' (List.mem_cons_of_mem _ h1) (List.mem_cons_of_mem _ h2)) h
theorem frW_spec : ∀ {m : Memo} {g : FuncId} {ds : List D} {d : D}, frW m g ds d → ∀ d', (g, ds, d') ∈ m → d' = d
  | [], _, _, _, _, _, h => by simp at h
  | (g0, as, d0) :: m, g, ds, d, hf, d', h => by
    obtain ⟨h1, h2⟩ := hf
    rcases List.mem_cons.1 h with h | h
    · simp only [Prod.mk.injEq] at h; obtain ⟨rfl, rfl, rfl⟩ := h; exact h1 rfl rfl
    · exact frW_spec h2 d' h
section
variable (P : Program) (ti : TI)
def rcW (m : Nat) (tm : List D) (o : Oper) (d : D) : List (Nat × Heap) → Prop
  | [] => True
  | (t, g) :: r => (∃ h', aop P ti tm g 0 o = some (d, h')) ∧ (if (t == 0 || m.testBit (t - 1)) = true then True else rcW m tm o d r)
def pmW (h : Heap) (m : Nat) : List (Nat × Oper × List D × D) → Prop
  | [] => True
  | (r, o, tm, d) :: l => (if m.testBit r = true then True else ∃ h', aop P ti tm h 0 o = some (d, h')) ∧ pmW h m l
def drawW (ops : Array Oper) (base : Nat) (M : List Nat) : List Oper → Nat → DS → Memo → (DS → Prop) → Prop
  | [], _, s, _, K => K s
  | o :: l, j, s, mm, K =>
    match wantedD ops s.tm o with
    | some true =>
      match kindR ops o with
      | .pure => stepW P ti s.tm ⟨0,[]⟩ 0 o (fun d _ => drawW ops base M l (j + 1) { s with tm := putD s.tm o.dst d } mm K)
      | .read =>
        match s.hist with
        | (t, g) :: r => stepW P ti s.tm g 0 o (fun d _ => (if (t == 0 || (M.getD j 0).testBit (t - 1)) = true then True else rcW P ti (M.getD j 0) s.tm o d r) ∧ drawW ops base M l (j + 1) { s with tm := putD s.tm o.dst d, rd := (j, o, s.tm, d) :: s.rd } mm K)
        | [] => False
      | .alloc =>
        match aop P ti s.tm ⟨0,[]⟩ (base + j) o with
        | some (d, h') =>
          match h'.get (base + j) with
          | some box => if alOk M (M.getD j 0) s.hist s.al = true then drawW ops base M l (j + 1) { s with tm := putD s.tm o.dst d, pend := (j, box) :: s.pend, al := j :: s.al } mm K else False
          | none => False
        | none => False
      | .write =>
        match s.hist with
        | (t, g) :: _ =>
          if (t == 0 || (M.getD j 0).testBit (t - 1)) = true then
            match acallOp s.tm o with
            | some (.fn gf, ds) => ∃ d, Pu P gf ds d ∧ frW mm gf ds d ∧ pmW P ti (visH base (s.pend.filter fun p => (M.getD j 0).testBit p.1) g) (M.getD j 0) s.rd ∧
                drawW ops base M l (j + 1) { s with tm := putD s.tm o.dst d, hist := (j + 1, visH base (s.pend.filter fun p => (M.getD j 0).testBit p.1) g) :: s.hist, pend := s.pend.filter fun p => !(M.getD j 0).testBit p.1 } ((gf, ds, d) :: mm) K
            | some (.yf _, _) => False
            | none =>
              match aop P ti s.tm (visH base (s.pend.filter fun p => (M.getD j 0).testBit p.1) g) (base + j) o with
              | some (d, h') => pmW P ti h' (M.getD j 0) s.rd ∧ drawW ops base M l (j + 1) { s with tm := putD s.tm o.dst d, hist := (j + 1, h') :: s.hist, pend := s.pend.filter fun p => !(M.getD j 0).testBit p.1 } mm K
              | none => False
          else False
        | [] => False
    | some false => drawW ops base M l (j + 1) { s with tm := putD s.tm o.dst undefD } mm K
    | none => False
end
section
variable {P : Program} {ti : TI}
theorem same_of {tm : List D} {o : Oper} {d : D} {g h' : Heap} (h : aop P ti tm g 0 o = some (d, h')) : sameRead P ti eqC tm o d g = true := by unfold sameRead; rw [h]; simp [eqC]
theorem rcW_ok {m : Nat} {tm : List D} {o : Oper} {d : D} : ∀ {l : List (Nat × Heap)}, rcW P ti m tm o d l → readOk P ti eqC m tm o d l = true
  | [], _ => rfl
  | (t, g) :: r, h => by
    obtain ⟨⟨h', h1⟩, h2⟩ := h
    simp only [readOk, Bool.and_eq_true]
    refine ⟨same_of h1, ?_⟩
    split at h2
    · rename_i hb; simp only [Bool.or_eq_true] at hb ⊢; exact .inl hb
    · simp only [Bool.or_eq_true]; exact .inr (rcW_ok h2)
theorem pmW_ok {h : Heap} {m : Nat} : ∀ {l : List (Nat × Oper × List D × D)}, pmW P ti h m l → promOk P ti eqC h m l = true
  | [], _ => rfl
  | (r, o, tm, d) :: l, hp => by
    obtain ⟨h1, h2⟩ := hp
    simp only [promOk, Bool.and_eq_true, Bool.or_eq_true]
    refine ⟨?_, pmW_ok h2⟩
    split at h1
    · rename_i hb; exact .inl hb
    · obtain ⟨h', h1⟩ := h1; exact .inr (same_of h1)
theorem call_write {tm : List D} {o : Oper} {x : Cal × List D} (h : acallOp tm o = some x) : kind o = .write := by
  unfold acallOp at h
  split at h
  · rename_i c hc
    split at h
    · rename_i f hf; simp only [kind, hc, hf]
    · simp at h
  · simp at h
theorem drawW_sound (ops : Array Oper) (base : Nat) (M : List Nat) : ∀ (l : List Oper) (j : Nat) (s : DS) (mm : Memo) (K : DS → Prop), drawW P ti ops base M l j s mm K → FunM mm →
    ∃ mm2 s', K s' ∧ FunM (mm2 ++ mm) ∧ (∀ e ∈ mm2, Pu P e.1 e.2.1 e.2.2) ∧ ∀ m, (∀ e ∈ mm2, lkM m e.1 e.2.1 = some e.2.2) → dRun P ti (clM m) eqC ops base M l j s = some s'
  | [], j, s, mm, K, h, hF => ⟨[], s, h, hF, fun e he => by simp at he, fun m _ => rfl⟩
  | o :: l, j, s, mm, K, h, hF => by
    simp only [drawW] at h
    split at h
    · rename_i hw
      split at h
      · rename_i hk
        obtain ⟨d, h', h1, hc⟩ := stepW_sound h
        rcases hc with ⟨hc1, hc2⟩ | ⟨_, g, ds, hc1, _⟩
        · obtain ⟨mm2, s', k1, k2, k3, k4⟩ := drawW_sound ops base M l (j + 1) _ mm K h1 hF
          refine ⟨mm2, s', k1, k2, k3, fun m hm => ?_⟩
          simp only [dRun, dstep, hw, hk, hc2]
          exact k4 m hm
        · have := kindR_write (ops := ops) (call_write hc1); rw [hk] at this; cases this
      · rename_i hk
        split at h
        · rename_i t g r hh
          obtain ⟨d, h', ⟨h0, h1⟩, hc⟩ := stepW_sound h
          rcases hc with ⟨hc1, hc2⟩ | ⟨_, gf, ds, hc1, _⟩
          · obtain ⟨mm2, s', k1, k2, k3, k4⟩ := drawW_sound ops base M l (j + 1) _ mm K h1 hF
            refine ⟨mm2, s', k1, k2, k3, fun m hm => ?_⟩
            have hro : readOk P ti eqC (M.getD j 0) s.tm o d s.hist = true := by
              rw [hh]
              exact rcW_ok ⟨⟨h', hc2⟩, h0⟩
            simp only [dRun, dstep, hw, hk]
            rw [hh] at hro ⊢
            simp only [hc2, hro, if_true]
            have := k4 m hm
            rw [hh] at this
            exact this
          · have := kindR_write (ops := ops) (call_write hc1); rw [hk] at this; cases this
        · exact h.elim
      · rename_i hk
        split at h
        · rename_i d h' ha
          split at h
          · rename_i box hbox
            split at h
            · rename_i hal
              obtain ⟨mm2, s', k1, k2, k3, k4⟩ := drawW_sound ops base M l (j + 1) _ mm K h hF
              refine ⟨mm2, s', k1, k2, k3, fun m hm => ?_⟩
              simp only [dRun, dstep, hw, hk, ha, hbox, hal, if_true]
              exact k4 m hm
            · exact h.elim
          · exact h.elim
        · exact h.elim
      · rename_i hk
        split at h
        · rename_i t g r hh
          split at h
          · rename_i hb
            split at h
            · rename_i gf ds hac
              obtain ⟨d, hpu, hfr, hpm, h1⟩ := h
              have hF' : FunM ((gf, ds, d) :: mm) := fun g1 ds1 d1 d2 m1 m2 => by
                rcases List.mem_cons.1 m1 with x1 | x1 <;> rcases List.mem_cons.1 m2 with x2 | x2
                · simp only [Prod.mk.injEq] at x1 x2; rw [x1.2.2, x2.2.2]
                · simp only [Prod.mk.injEq] at x1; obtain ⟨rfl, rfl, rfl⟩ := x1; exact (frW_spec hfr d2 x2).symm
                · simp only [Prod.mk.injEq] at x2; obtain ⟨rfl, rfl, rfl⟩ := x2; exact frW_spec hfr d1 x1
                · exact hF _ _ _ _ x1 x2
              obtain ⟨mm2, s', k1, k2, k3, k4⟩ := drawW_sound ops base M l (j + 1) _ _ K h1 hF'
              refine ⟨mm2 ++ [(gf, ds, d)], s', k1, by simpa using k2, fun e he => ?_, fun m hm => ?_⟩
              · rcases List.mem_append.1 he with he | he
                · exact k3 e he
                · simp at he; subst he; exact hpu
              · have hl := hm (gf, ds, d) (by simp)
                have hst : ∀ h0 id, stepD P ti (clM m) s.tm h0 id o = some (d, h0) := fun h0 id => by
                  unfold stepD
                  simp only [hac, clM, hl, Option.map_some]
                simp only [dRun, dstep, hw, hk]
                have := k4 m (fun e he => hm e (by simp [he]))
                rw [hh] at this ⊢
                simp only [hb, if_true, hst, pmW_ok hpm]
                exact this
            · exact h.elim
            · rename_i hac
              split at h
              · rename_i d h' ha
                obtain ⟨hpm, h1⟩ := h
                obtain ⟨mm2, s', k1, k2, k3, k4⟩ := drawW_sound ops base M l (j + 1) _ mm K h1 hF
                refine ⟨mm2, s', k1, k2, k3, fun m hm => ?_⟩
                have hst : stepD P ti (clM m) s.tm (visH base (s.pend.filter fun p => (M.getD j 0).testBit p.1) g) (base + j) o = some (d, h') := by
                  unfold stepD
                  simp only [hac, ha]
                simp only [dRun, dstep, hw, hk]
                have := k4 m hm
                rw [hh] at this ⊢
                simp only [hb, if_true, hst, pmW_ok hpm]
                exact this
              · exact h.elim
          · exact h.elim
        · exact h.elim
    · rename_i hw
      obtain ⟨mm2, s', k1, k2, k3, k4⟩ := drawW_sound ops base M l (j + 1) _ mm K h hF
      refine ⟨mm2, s', k1, k2, k3, fun m hm => ?_⟩
      simp only [dRun, dstep, hw]
      exact k4 m hm
    · exact h.elim
def drawEnd (s : St) (Q : St → Prop) (ds : DS) : Prop := match ds.hist with | (_, g) :: _ => Q ⟨ds.tm, visH s.h.next ds.pend g⟩ | [] => False
theorem SW.draw (hm : P.follows .mixedOrders = true) (T : TOk P ti) {id : Nat} {ops : Array Oper} {M : List Nat} {Q : Exit → St → Prop} {s : St} (hok : drawOk ops = true) (hM : ancs ops.toList [] = M)
    (h : drawW P ti ops s.h.next M ops.toList 0 ⟨s.tmps, [(0, bump s.h ops.size)],[],[],[]⟩ [] (drawEnd s (Q .normal))) : SW P (.region id ops true) Q s := by
  subst hM
  obtain ⟨mm2, ds, k1, k2, k3, k4⟩ := drawW_sound ops _ _ _ _ _ _ _ h (fun _ _ _ _ h => by simp at h)
  rw [List.append_nil] at k2
  have hC : ClOk P (clM mm2) := fun k as h0 d h' hx => by
    cases k with
    | yf id => simp [clM] at hx
    | fn g =>
      simp only [clM, Option.map_eq_some_iff, Prod.mk.injEq] at hx
      obtain ⟨d', h1, rfl, rfl⟩ := hx
      exact k3 _ (lkM_mem h1) _
  have hr := k4 mm2 (fun e he => lkM_get k2 (by exact he))
  unfold drawEnd at k1
  split at k1
  · rename_i t g r hh
    have hd : drawRun P ti (clM mm2) eqC ops s = some ⟨ds.tm, visH s.h.next ds.pend g⟩ := by
      unfold drawRun
      rw [hr]
      simp only [hh]
    intro c a R hf hR
    exact drawRun_wp hm T hC eqC_eq hok hd hf fun c' a' f1 g1 p1 d1 => hR _ _ c' a' k1 f1 g1 p1 d1
  · exact k1.elim
end
end Go.Am
