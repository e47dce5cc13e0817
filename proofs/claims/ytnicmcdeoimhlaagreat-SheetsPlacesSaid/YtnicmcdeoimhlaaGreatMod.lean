/- Walks where the frame holds deferred calls (D), and in a round of a range over a function (I). Conditions: the rules' own hypotheses. -/
import Derived.Test.YtnicmcdeoimhlaaGreatWbl
import Derived.Test.YtnicmcdeoimhlaaGreatRow
namespace Go.Proofs.YtnicmcdeoimhlaaGreat.M
open Go.RowKit
section
variable {P : Program} {n m l : Nat} {ops : Array Oper} {Q : Exit → Act → World → Prop} {rest : List Oper} {L : Env} {w : World} {D : List Deferred} {ty : TypeId} {pos : String} {aft : Array Edge}
def more (D : List Deferred) (a : Act) : Act := { a with defers := a.defers ++ D }
theorem more_put (a : Act) (d : Option Tmp) (v : Value) : (more D a).put d v = more D (a.put d v) := by cases d <;> rfl
theorem more_eval (a : Act) : (more D a).eval = a.eval := by funext x; cases x <;> rfl
def QD (D : List Deferred) (Q : Exit → Act → World → Prop) : Exit → Act → World → Prop := fun e a w => Q e (more D a) w
theorem letsD (h : LetsOut (QD D Q)) : LetsOut Q := by obtain ⟨a, w, h⟩ := h; exact ⟨_, w, h⟩
theorem uponD {o : Oper} {a : Act} {K K' : Act → World → Prop} (hK : ∀ a w, K a w → K' (more D a) w) {r : Result Next} (h : o.upon P a K (QD D Q) r) : o.upon P (more D a) K' Q r := by
  unfold Oper.upon at h ⊢
  split at h
  · rw [more_put]; exact hK _ _ h
  · rw [more_put]; exact hK _ _ h
  · have := hK _ _ h; rw [← more_put] at this; exact this
  · refine Calls.mono h fun e w' he => ?_
    cases e with
    | returned v => dsimp only at he ⊢; rw [more_put]; exact hK _ _ he
    | panicked c => exact he
    | outgrown => exact letsD he
  · refine Rows.mono h fun v w' he => ?_
    rw [more_put]; exact hK _ _ he
  · exact h
  · exact h.elim
theorem opD {o : Oper} {a : Act} {K K' : Act → World → Prop} (hK : ∀ a w, K a w → K' (more D a) w) (h : o.wp P a w K (QD D Q) ∨ (o.asks P a w ∧ LetsOut (QD D Q))) : o.wp P (more D a) w K' Q ∨ (o.asks P (more D a) w ∧ LetsOut Q) := by
  rcases h with h | ⟨h1, h2⟩
  · refine .inl ?_
    unfold Oper.wp at h ⊢
    rw [more_eval]
    exact uponD hK h
  · refine .inr ⟨?_, letsD h2⟩
    unfold Oper.asks at h1 ⊢
    rw [more_eval]; exact h1
theorem listD : ∀ (rest : List Oper) (a : Act) (w : World), wpList P ops (QD D Q) rest a w → wpList P ops Q rest (more D a) w
  | [], _, _, h => h
  | o :: rest, a, w, h => by
    unfold wpList at h ⊢
    rw [show (more D a).tmps = a.tmps from rfl]
    split
    · rename_i hw
      rw [if_pos hw] at h
      exact opD (fun a w => listD rest a w) h
    · rename_i hw
      rw [if_neg hw] at h
      rw [more_put]; exact listD rest _ _ h
theorem opsD : ∀ (s : List Nat) (a : Act) (w : World), wpOps P ops (QD D Q) s a w → wpOps P ops Q s (more D a) w
  | [], _, _, h => h
  | i :: s, a, w, h => by
    unfold wpOps at h ⊢
    cases ho : ops[i]? with
    | none => simp only [ho] at h ⊢; exact opsD s a w h
    | some o =>
      simp only [ho] at h ⊢
      rw [show (more D a).tmps = a.tmps from rfl]
      split
      · rename_i hw
        rw [if_pos hw] at h
        exact opD (fun a w => opsD s a w) h
      · rename_i hw
        rw [if_neg hw] at h
        rw [more_put]; exact opsD s _ _ h
structure FrD (D : List Deferred) (n : Nat) (L : Env) (a : Act) : Prop where
  size : a.tmps.size = n
  defers : a.defers = D
  get : ∀ t v, eget L t = some v → a.tmps[t]? = some v
theorem FrD.less {a : Act} (h : FrD D n L a) : ∃ a0, Fr n L a0 ∧ a = more D a0 := ⟨{ a with defers := [] }, ⟨h.size, rfl, h.get⟩, by obtain ⟨t, d⟩ := a; have := h.defers; simp at this; subst this; rfl⟩
theorem Fr.more {a : Act} (h : Fr n L a) : FrD D n L (more D a) := ⟨h.size, by show a.defers ++ D = D; rw [h.defers]; rfl, h.get⟩
theorem FrD.eval {a : Act} (h : FrD D n L a) {x : Operand} {v : Value} (hx : look L x = some v) : a.eval x = v := by
  obtain ⟨a0, h0, rfl⟩ := h.less
  rw [more_eval]; exact h0.eval hx
theorem FrD.sub {L' : Env} {a : Act} (h : FrD D n L a) (hs : SubE L L') : FrD D n L' a := ⟨h.size, h.defers, fun t v ht => h.get t v (hs.get t v ht)⟩
@[irreducible] def wcD (D : List Deferred) (P : Program) (n : Nat) (c : Code) (Q : Exit → Act → World → Prop) (L : Env) (w : World) : Prop := ∀ a, FrD D n L a → c.wp P Q a w
@[irreducible] def qsD (D : List Deferred) (n : Nat) (Q : Exit → Act → World → Prop) (e : Exit) (L : Env) (w : World) : Prop := ∀ a, FrD D n L a → Q e a w
theorem qsD_of {e : Exit} (h : qsD D n Q e L w) : qs n (QD D Q) e L w := by unfold qsD at h; unfold qs; exact fun a ha => h _ ha.more
theorem wcD_sub {c : Code} {L' : Env} (hs : SubE L L') (h : wcD D P n c Q L' w) : wcD D P n c Q L w := by unfold wcD at *; exact fun a ha => h a (ha.sub hs)
theorem wcD_seq {x y : Code} (h : wcD D P n x (Exit.then (y.wp P Q) Q) L w) : wcD D P n (.seq x y) Q L w := by unfold wcD at *; exact fun a ha => Go.wp_seq (h a ha)
theorem wcD_region {id : Nat} {l : List Oper} (h : wl P n l.toArray (QD D Q) l L w) : wcD D P n (.region id l.toArray false) Q L w := by
  unfold wcD; unfold wl at h
  intro a ha
  obtain ⟨a0, h0, rfl⟩ := ha.less
  exact Go.wp_region_lit (listD _ _ _ (h a0 h0))
theorem wcD_draws {id : Nat} {l : List Oper} (hm : P.follows .mixedOrders = true) (h : DrW P n l l (QD D Q) L w.drew) : wcD D P n (.region id l.toArray true) Q L w := by
  unfold wcD
  unfold DrW at h
  intro a ha
  obtain ⟨a0, h0, rfl⟩ := ha.less
  refine wp_region_draw fun t => ?_
  simp only [Region.schedule, hm, Bool.true_or, if_true]
  refine opsD _ _ _ (h (AlikeO.refl _) _ ?_ a0 h0)
  have := go_sch l.toArray l.toArray.size t (Array.replicate l.length false) (by
    unfold todoN
    have := List.length_filter_le (fun i => !(Array.replicate l.length false).getD i false) (List.range l.toArray.size)
    simpa using this)
  simpa [Region.linearise] using this
theorem wcD_skip (h : qsD D n Q .normal L w) : wcD D P n .skip Q L w := by unfold wcD; unfold qsD at h; exact fun a ha => Go.wp_skip (h a ha)
theorem wcD_ret (h : qsD D n Q .ret L w) : wcD D P n .ret Q L w := by unfold wcD; unfold qsD at h; exact fun a ha => Go.wp_ret (h a ha)
theorem wcD_cond {c : Operand} {x y : Code} {t : Bool} (hc : look L c = some (.bool t)) (h1 : t = true → wcD D P n x Q L w) (h2 : t = false → wcD D P n y Q L w) : wcD D P n (.cond c x y) Q L w := by
  unfold wcD at *; exact fun a ha => Go.wp_cond_split (ha.eval hc) (fun e => h1 e a ha) (fun e => h2 e a ha)
theorem wcD_condD {c : Operand} {x y : Code} {p : Prop} {dp : Decidable p} (hc : look L c = some (.bool (@decide p dp))) (h1 : p → wcD D P n x Q L w) (h2 : ¬ p → wcD D P n y Q L w) : wcD D P n (.cond c x y) Q L w :=
  wcD_cond hc (fun e => h1 (of_decide_eq_true e)) (fun e => h2 (of_decide_eq_false e))
theorem qsD_seq {y : Code} (h : wcD D P n y Q L w) : qsD D n (Exit.then (y.wp P Q) Q) .normal L w := by unfold qsD; unfold wcD at h; exact fun a ha => h a ha
theorem qsD_then_ret {K : Act → World → Prop} (h : qsD D n Q .ret L w) : qsD D n (Exit.then K Q) .ret L w := by unfold qsD at *; exact fun a ha => h a ha
theorem qsD_block_normal {id : Nat} (h : qsD D n Q .normal L w) : qsD D n (Exit.inBlock id Q) .normal L w := by unfold qsD at *; exact fun a ha => h a ha
/-- 'defer f()', f a function value, at a region's end -/
theorem wl_defer {x : Operand} {f : Nat} {fs cap : Array Value} {ts : Array TypeId} (hx : look L x = some (.func (.func f) fs cap)) (h : qsD [{ target := .fn (.func f) cap, args := fs }] n Q .normal L w) : wl P n ops Q [⟨none, .defer ⟨.value x, #[], ts⟩, ty, pos, aft, none⟩] L w := by
  unfold wl; unfold qsD at h
  intro a ha
  unfold wpList
  rw [if_pos (by simp [Region.wanted])]
  refine .inl ?_
  unfold Oper.wp
  have hr : (execOp a.eval ⟨none, .defer ⟨.value x, #[], ts⟩, ty, pos, aft, none⟩).run P w = .ok (.defer { target := .fn (.func f) cap, args := fs }) w := by
    simp [execOp, resolve, ha.eval hx, Deferred.ofValue]
  rw [hr]
  exact h _ ⟨ha.size, by show _ :: a.defers = _; rw [ha.defers], ha.get⟩
/-! ### a function with deferred calls -/
theorem calls_enterD {f : FuncId} {fn : Func} {c : Code} {args : List Value} {R : Ending → World → Prop} (hf : P.funcs[f]? = some fn) (hb : fn.body = some c) (hn : fn.ntmps = n) (hl : Nat.ble args.length n = true)
    (h : wc P n c (bodyPostD P fn R) (argsE 0 args) w) : Calls P f args.toArray w R := by
  have hle : args.length ≤ n := Nat.le_of_ble_eq_true hl
  unfold wc at h
  refine calls_of_wp_defers hf hb (h _ ⟨by simp [hn]; omega, rfl, fun t v ht => ?_⟩)
  obtain ⟨_, h2⟩ := argsE_get args 0 t v ht
  simp only [Nat.sub_zero] at h2
  have hlt := (List.getElem?_eq_some_iff.1 h2).1
  rw [Array.getElem?_append_left (by simpa using hlt)]
  simpa using h2
theorem callsD_enter {f : FuncId} {fn : Func} {c : Code} {args : List Value} {R : Ending → World → Prop} {u : FrameMode} (hf : P.funcs[f]? = some fn) (hb : fn.body = some c) (hn : fn.ntmps = n) (hl : Nat.ble args.length n = true)
    (h : wc P n c (bodyPost P fn R) (argsE 0 args) w) : CallsD P f args.toArray u w (fun e u' w' => u' = u ∧ R e w') := by
  have hle : args.length ≤ n := Nat.le_of_ble_eq_true hl
  unfold wc at h
  refine callsD_of_wp hf hb (h _ ⟨by simp [hn]; omega, rfl, fun t v ht => ?_⟩)
  obtain ⟨_, h2⟩ := argsE_get args 0 t v ht
  simp only [Nat.sub_zero] at h2
  have hlt := (List.getElem?_eq_some_iff.1 h2).1
  rw [Array.getElem?_append_left (by simpa using hlt)]
  simpa using h2
theorem finE_of {fn : Func} {R : Ending → World → Prop} {v : Value} {e : Exit} (he : e = .normal ∨ e = .ret) (hr : ∀ a, Fr n L a → (results fn a.tmps).run P w = .ok v w) (h : R (.returned v) w) : qs n (bodyPostD P fn R) e L w := by
  unfold qs
  intro a ha
  have hd := ha.defers
  rcases he with rfl | rfl
  · show Leaves P fn a.tmps R a.defers .returning w
    rw [hd]; exact ⟨v, hr a ha, h⟩
  · show Leaves P fn a.tmps R a.defers .returning w
    rw [hd]; exact ⟨v, hr a ha, h⟩
theorem finE2 {fn : Func} {R : Ending → World → Prop} {r r2 : ResultVar} {v v2 : Value} {e : Exit} (he : e = .normal ∨ e = .ret) (hf : fn.results = #[r, r2]) (hv : resOk P n L w r v) (hv2 : resOk P n L w r2 v2) (h : R (.returned (.tuple #[v, v2])) w) : qs n (bodyPostD P fn R) e L w :=
  finE_of he (fun a ha => by rw [results_eq, hf]; simp [hv a ha, hv2 a ha]) h
/-- one call was deferred: it is done, then the results are read -/
theorem finD {fn : Func} {R : Ending → World → Prop} {R0 : Value → World → Prop} {e : Exit} {f : Nat} {cap : List Value} (he : e = .normal ∨ e = .ret) (hc : callB P f = true) (hcd : CallsD P f cap.toArray .returning w (fun e u' w' => u' = .returning ∧ Ret R0 e w'))
    (hk : ∀ v0 w', R0 v0 w' → ∃ v, (∀ a, Fr n L a → (results fn a.tmps).run P w' = .ok v w') ∧ R (.returned v) w') : qsD [{ target := .fn (.func f) cap.toArray, args := #[] }] n (bodyPostD P fn R) e L w := by
  unfold qsD
  intro a ha
  have hd := ha.defers
  have main : Leaves P fn a.tmps R a.defers .returning w := by
    rw [hd]
    refine leaves_cons (f := f) (args := cap.toArray) (by simp) ?_ ?_
    · have := callB_run hc cap.toArray w
      simp only [invoke]
      simpa using this
    · refine CallsD.mono hcd ?_
      rintro e u' w' ⟨rfl, v0, rfl, h0⟩
      obtain ⟨v, h1, h2⟩ := hk v0 w' h0
      show Leaves P fn a.tmps R [] (settle .returning) w'
      exact ⟨v, h1 { tmps := a.tmps, defers := [] } ⟨ha.size, rfl, ha.get⟩, h2⟩
  rcases he with rfl | rfl <;> exact main
/-- the mark of a loop over a function: nothing was deferred in its rounds -/
theorem finM {fn : Func} {R : Ending → World → Prop} {e : Exit} {B : Nat} {v : Value} (he : e = .normal ∨ e = .ret) (hB : w.heap[B]? = some (.deferred (some []))) (hr : ∀ a, Fr n L a → (results fn a.tmps).run P (w.putObj B (.deferred none)) = .ok v (w.putObj B (.deferred none))) (h : R (.returned v) (w.putObj B (.deferred none))) :
    qsD [{ target := .collected B, args := #[] }] n (bodyPostM Fence.wide 0 P fn R) e L w := by
  unfold qsD
  intro a ha
  have main : LeavesInM Fence.wide 0 P fn a.tmps R a.defers .returning w := by
    rw [ha.defers]
    exact ⟨by simp, .inl ⟨B, _, rfl, run_takeDeferred hB, ⟨v, hr { tmps := a.tmps, defers := [] } ⟨ha.size, rfl, ha.get⟩, h⟩⟩⟩
  rcases he with rfl | rfl <;> exact main
theorem res2 {fn : Func} {t u : Nat} {v x : Value} (hf : fn.results = #[.tmp t, .tmp u]) (hv : eget L t = some v) (hx : eget L u = some x) (a : Act) (ha : Fr n L a) : (results fn a.tmps).run P w = .ok (.tuple #[v, x]) w := by
  have := ha.get t v hv; have := ha.get u x hx; simp [results, hf, *]
/-! ### a round -/
@[irreducible] def wcI (l : Nat) (P : Program) (n : Nat) (c : Code) (Q : Exit → Act → World → Prop) (L : Env) (w : World) : Prop := ∀ a, Fr n L a → c.wpIn (RF l) 0 P Q a w
theorem wcI_sub {c : Code} {L' : Env} (hs : SubE L L') (h : wcI l P n c Q L' w) : wcI l P n c Q L w := by unfold wcI at *; exact fun a ha => h a (ha.sub hs)
theorem wcI_seq {x y : Code} (h : wcI l P n x (Exit.then (y.wpIn (RF l) 0 P Q) Q) L w) : wcI l P n (.seq x y) Q L w := by unfold wcI at *; exact fun a ha => Go.wpIn_seq (h a ha)
def noDef (o : Oper) : Bool := match o.op with | .defer _ => false | _ => true
theorem wcI_region {id : Nat} {os : List Oper} (hQ : ¬ LetsOut Q) (hd : os.all noDef = true) (h : wl P n os.toArray Q os L w) : wcI l P n (.region id os.toArray false) Q L w := by
  unfold wcI; unfold wl at h
  exact fun a ha => Go.wpIn_region_lit (listIn_of hQ _ _ _ (fun o ho c e => by have := List.all_eq_true.1 hd o ho; unfold noDef at this; rw [e] at this; cases this) (h a ha))
theorem wcI_block {id : Nat} {c : Code} (h : wcI l P n c (Exit.inBlock id Q) L w) : wcI l P n (.block id c) Q L w := by unfold wcI at *; exact fun a ha => Go.wpIn_block (h a ha)
theorem wcI_cond {c : Operand} {x y : Code} {t : Bool} (hc : look L c = some (.bool t)) (h1 : t = true → wcI l P n x Q L w) (h2 : t = false → wcI l P n y Q L w) : wcI l P n (.cond c x y) Q L w := by
  unfold wcI at *; exact fun a ha => Go.wpIn_cond_split (ha.eval hc) (fun e => h1 e a ha) (fun e => h2 e a ha)
theorem qsI_seq {y : Code} (h : wcI l P n y Q L w) : qs n (Exit.then (y.wpIn (RF l) 0 P Q) Q) .normal L w := by unfold qs; unfold wcI at h; exact fun a ha => h a ha
theorem qsI_block_normal {id : Nat} (h : qs n Q .normal L w) : qs n (Exit.inBlock id Q) .normal L w := qs_block_normal h
theorem qsD_app {e : Exit} {a : Act} (hd : a.defers = D) (hs : a.tmps.size = n) (hg : ∀ t v, eget L t = some v → a.tmps[t]? = some v) (h : qsD D n Q e L w) : Q e a w := by unfold qsD at h; exact h a ⟨hs, hd, hg⟩
theorem wlI_yield2 {rest : List Oper} {d : Nat} {x y z : Operand} {u v v2 : Value} {ts : Array TypeId} {R : World → Prop} (hx : look L x = some (.func (.yield l) #[] #[])) (hy : look L y = some v) (hz : look L z = some v2) (hd : Nat.blt d n = true)
    (hY : YieldAt Fence.wide 0 P l #[v, v2] w (fun e w' => e = .returned u ∧ R w')) (hk : ∀ w', R w' → wlI P n ops Q rest ((d, u) :: L) w') : wlI P n ops Q (⟨some d, .call ⟨.value x, #[y, z], ts⟩, ty, pos, aft, none⟩ :: rest) L w := by
  obtain ⟨fn, tmps, assign, body, h1, h2⟩ := hY
  unfold wlI at *
  intro a ha
  unfold wpListIn
  rw [if_pos (by simp [Region.wanted])]
  refine ⟨fun _ _ => trivial, ?_⟩
  have h3 : (execOp a.eval ⟨some d, .call ⟨.value x, #[y, z], ts⟩, ty, pos, aft, none⟩).run P w = .ok (.round l fn tmps assign body) w := by
    simp only [execOp, resolve, ha.eval hx, Deferred.ofValue, invoke]
    simp [ha.eval hy, ha.eval hz, h1]
  show Oper.uponIn _ _ _ _ _ _ _ ((Oper.semAt none a.eval _).run P w)
  rw [Oper.semAt_none, h3]
  refine ⟨fun q => by simp [Fence.wide] at q, h2.mono fun e w' ⟨he, hR⟩ => ?_⟩
  subst he
  exact hk w' hR _ (ha.put (some d) u hd)
/-- a round, out of the walks of its assignment and of its body -/
theorem yieldG {t1 t2 : Nat} {x1 x2 : Value} {rec : Loop} {assign body : Code} {L0 : Env} {R : World → Prop}
    (hrec : w.heap[l]? = some (.loop rec)) (hst : rec.state = .ready) (hpd : rec.pending = none) (hps : rec.params = #[t1, t2]) (has : rec.assign = assign) (hbo : rec.body = body) (htn : rec.tmps.size = n)
    (hfr : ∀ t v, eget L0 t = some v → rec.tmps[t]? = some v) (ht1 : Nat.blt t1 n = true) (ht2 : Nat.blt t2 n = true)
    (h : wcI l P n assign (Exit.then (fun a₁ w₁ => ∃ w₂, (Instr.beginRound l).run P w₁ = .ok () w₂ ∧ body.wpIn (RF l) 0 P (roundPost P l fun e w' => e = .returned (.bool true) ∧ R w') a₁ w₂) (fun _ _ _ => False)) ((t2, x2) :: (t1, x1) :: L0) w) :
    YieldAt Fence.wide 0 P l #[x1, x2] w (fun e w' => e = .returned (.bool true) ∧ R w') := by
  subst has hbo
  unfold wcI at h
  refine ⟨rec.fn, (rec.tmps.setIfInBounds t1 x1).setIfInBounds t2 x2, rec.assign, rec.body, ?_, roundIn_of_wpIn trivial ?_⟩
  · have := run_yield (P := P) (args := #[x1, x2]) hrec (by simp [hps])
    simpa [hps] using this
  · have ha0 : Fr n L0 { tmps := rec.tmps, defers := [] } := ⟨htn, rfl, hfr⟩
    exact h _ ((ha0.put (some t1) x1 ht1).put (some t2) x2 ht2)
theorem qsI_begin {rec : Loop} {body : Code} {R : World → Prop} {Q2 : Exit → Act → World → Prop} (hrec : w.heap[l]? = some (.loop rec)) (hst : rec.state = .ready) (h : wcI l P n body (roundPost P l fun e w' => e = .returned (.bool true) ∧ R w') L (w.putObj l (.loop { rec with state := .busy }))) :
    qs n (Exit.then (fun a₁ w₁ => ∃ w₂, (Instr.beginRound l).run P w₁ = .ok () w₂ ∧ body.wpIn (RF l) 0 P (roundPost P l fun e w' => e = .returned (.bool true) ∧ R w') a₁ w₂) Q2) .normal L w := by
  unfold wcI at h; unfold qs
  exact fun a ha => ⟨_, run_beginRound hrec hst, h a ha⟩
theorem qsI_end {rec : Loop} {R : World → Prop} (hrec : w.heap[l]? = some (.loop { rec with state := .busy })) (hst : rec.state = .ready) (hpd : rec.pending = none) (hR : R (w.putObj l (.loop rec))) : qs n (roundPost P l fun e w' => e = .returned (.bool true) ∧ R w') .normal L w := by
  unfold qs
  intro a _
  refine ⟨_, _, run_endRound none hrec, rfl, ?_⟩
  have e : ({ { rec with state := .busy } with state := if (none : Option Code).isNone then .ready else .done, pending := none } : Loop) = rec := by
    cases rec; simp at hst hpd; subst hst hpd; rfl
  rw [e]; exact hR
end
end Go.Proofs.YtnicmcdeoimhlaaGreat.M
/- compress: equal, pieces -/
namespace Go.Proofs.YtnicmcdeoimhlaaGreat
open Go.RowKit M
set_option linter.unusedVariables false
/-- how many of the first bytes are equal -/
def eqN : Bs → Nat
  | [] => 0
  | x :: l => 1 + (l.takeWhile (fun y => decide (y = x))).length
def lit : Bs → Nat
  | [] => 0
  | x :: l => if eqN (x :: l) < 3 then 1 + lit l else 0
def pieceN (l : Bs) : Nat := if 3 ≤ eqN l then eqN l else eqN l + lit (l.drop (eqN l))
theorem eqN_le (l : Bs) : eqN l ≤ l.length := by
  cases l with
  | nil => simp [eqN]
  | cons x l => have := (List.takeWhile_sublist (l := l) (fun y => decide (y = x))).length_le; simp [eqN]; omega
theorem eqN_pos {l : Bs} (h : l ≠ []) : 1 ≤ eqN l := by
  cases l with
  | nil => exact absurd rfl h
  | cons x l => simp [eqN]
theorem lit_le : ∀ l : Bs, lit l ≤ l.length
  | [] => by simp [lit]
  | x :: l => by
    have := lit_le l
    unfold lit
    split
    · simp; omega
    · simp
theorem pieceN_le (l : Bs) : pieceN l ≤ l.length := by
  unfold pieceN
  have := eqN_le l
  have := lit_le (l.drop (eqN l))
  rw [List.length_drop] at this
  split <;> omega
theorem pieceN_pos {l : Bs} (h : l ≠ []) : 1 ≤ pieceN l := by
  unfold pieceN
  have := eqN_pos h
  split <;> omega
theorem takeWhile_len {x : UInt8} : ∀ {l : Bs} {n : Nat}, n ≤ l.length → (∀ j, j < n → l[j]? = some x) → (n = l.length ∨ ∃ y, l[n]? = some y ∧ y ≠ x) → (l.takeWhile (fun y => decide (y = x))).length = n
  | [], n, h, _, _ => by simp at h; subst h; rfl
  | y :: l, 0, _, _, h => by
    rcases h with h | ⟨z, h1, h2⟩
    · simp at h
    · simp at h1; subst h1; simp [h2]
  | y :: l, n + 1, h, h1, h2 => by
    have := h1 0 (by omega)
    simp at this; subst this
    have := takeWhile_len (x := y) (l := l) (n := n) (by simpa using h) (fun j hj => by simpa using h1 (j + 1) (by omega)) (by simpa using h2)
    simp [this]
theorem eqN_eq {s : Bs} {k n : Nat} {x : UInt8} (h0 : s[k]? = some x) (hn : 1 ≤ n) (hle : k + n ≤ s.length) (he : ∀ j, j < n → s[k + j]? = some x) (hend : k + n = s.length ∨ ∃ y, s[k + n]? = some y ∧ y ≠ x) : eqN (s.drop k) = n := by
  have hk : k < s.length := (List.getElem?_eq_some_iff.1 h0).1
  have hx : s[k] = x := (List.getElem?_eq_some_iff.1 h0).2
  rw [List.drop_eq_getElem_cons hk, hx]
  rw [eqN, takeWhile_len (n := n - 1)]
  · omega
  · rw [List.length_drop]; omega
  · intro j hj; rw [List.getElem?_drop]; have := he (j + 1) (by omega); rw [show k + 1 + j = k + (j + 1) by omega]; exact this
  · rcases hend with h | ⟨y, h1, h2⟩
    · left; rw [List.length_drop]; omega
    · right; refine ⟨y, ?_, h2⟩; rw [List.getElem?_drop, show k + 1 + (n - 1) = k + n by omega]; exact h1
theorem tw_get {x : UInt8} : ∀ (l : Bs) (j : Nat), j < (l.takeWhile (fun y => decide (y = x))).length → l[j]? = some x
  | [], j, h => by simp at h
  | y :: l, j, h => by
    by_cases hy : y = x
    · subst hy
      cases j with
      | zero => rfl
      | succ j => rw [List.getElem?_cons_succ]; refine tw_get l j ?_; simp at h; simpa using h
    · simp [hy] at h
theorem eqN_all {l : Bs} {j : Nat} (h : j < eqN l) : l[j]? = l[0]? := by
  cases l with
  | nil => simp
  | cons x l =>
    cases j with
    | zero => rfl
    | succ j =>
      simp [eqN] at h
      have hj : j < (l.takeWhile (fun y => decide (y = x))).length := by omega
      rw [List.getElem?_cons_succ, List.getElem?_cons_zero]
      exact tw_get l j hj
theorem lit_step {s : Bs} {k : Nat} {x : UInt8} (h0 : s[k]? = some x) (h : eqN (s.drop k) < 3) : lit (s.drop k) = 1 + lit (s.drop (k + 1)) := by
  obtain ⟨hk, hx⟩ := List.getElem?_eq_some_iff.1 h0
  rw [List.drop_eq_getElem_cons hk] at h ⊢
  rw [lit, if_pos h]
theorem lit_stop {l : Bs} (h : l = [] ∨ 3 ≤ eqN l) : lit l = 0 := by
  cases l with
  | nil => rfl
  | cons x l =>
    rcases h with h | h
    · cases h
    · rw [lit, if_neg (by omega)]
def pcsF : Nat → Bs → List (Bs × Bool)
  | 0, _ => []
  | f + 1, l => if l = [] then [] else (l.take (pieceN l), decide (3 ≤ eqN l)) :: pcsF f (l.drop (pieceN l))
theorem pcsF_fuel : ∀ (f g : Nat) (l : Bs), l.length ≤ f → l.length ≤ g → pcsF f l = pcsF g l
  | 0, g, l, h, _ => by
    have hl : l = [] := List.length_eq_zero_iff.1 (by omega)
    subst hl
    cases g with
    | zero => rfl
    | succ g => simp [pcsF]
  | f + 1, 0, l, _, h => by
    have hl : l = [] := List.length_eq_zero_iff.1 (by omega)
    subst hl
    simp [pcsF]
  | f + 1, g + 1, l, h1, h2 => by
    unfold pcsF
    split
    · rfl
    · rename_i hl
      have := pieceN_pos hl
      rw [pcsF_fuel f g _ (by rw [List.length_drop]; omega) (by rw [List.length_drop]; omega)]
def pcs (l : Bs) : List (Bs × Bool) := pcsF l.length l
theorem pcs_nil : pcs [] = [] := rfl
theorem pcs_step {l : Bs} (h : l ≠ []) : pcs l = (l.take (pieceN l), decide (3 ≤ eqN l)) :: pcs (l.drop (pieceN l)) := by
  unfold pcs
  have hp := pieceN_pos h
  have hl : 1 ≤ l.length := by cases l with | nil => exact absurd rfl h | cons => simp
  obtain ⟨m, hm⟩ : ∃ m, l.length = m + 1 := ⟨l.length - 1, by omega⟩
  rw [hm, pcsF, if_neg h, pcsF_fuel m (l.drop (pieceN l)).length _ (by rw [List.length_drop]; omega) (Nat.le_refl _)]
def encP (x : Bs × Bool) : Bs := if x.2 = true then [UInt8.ofNat (128 + x.1.length), x.1.headD 0] else UInt8.ofNat x.1.length :: x.1
def encs (l : List (Bs × Bool)) : Bs := l.flatMap encP
def packM (p : Bs) : Option Bs := if (encs (pcs p)).length ≤ 47 then some (encs (pcs p)) else none
/-- a piece of a page -/
def okP (x : Bs × Bool) : Prop := 1 ≤ x.1.length ∧ x.1.length ≤ 64 ∧ (x.2 = true → ∀ j, j < x.1.length → x.1[j]? = x.1[0]?)
theorem pcs_ok : ∀ (n : Nat) (l : Bs), l.length ≤ n → n ≤ 64 → (∀ x ∈ pcs l, okP x) ∧ (pcs l).flatMap (·.1) = l
  | 0, l, h, _ => by
    have hl : l = [] := List.length_eq_zero_iff.1 (by omega)
    subst hl; simp [pcs_nil]
  | n + 1, l, h, h64 => by
    by_cases hl : l = []
    · subst hl; simp [pcs_nil]
    · have hp := pieceN_pos hl
      have hle := pieceN_le l
      obtain ⟨h1, h2⟩ := pcs_ok n (l.drop (pieceN l)) (by rw [List.length_drop]; omega) (by omega)
      rw [pcs_step hl]
      refine ⟨?_, ?_⟩
      · intro x hx
        rcases List.mem_cons.1 hx with rfl | hx
        · refine ⟨by simp; omega, by simp; omega, ?_⟩
          intro hd j hj
          simp only [decide_eq_true_eq] at hd
          have hpn : pieceN l = eqN l := by unfold pieceN; rw [if_pos hd]
          simp only [List.length_take] at hj
          simp only [List.getElem?_take]
          rw [if_pos (by omega), if_pos (by omega)]
          exact eqN_all (by omega)
        · exact h1 x hx
      · rw [List.flatMap_cons, h2]; exact List.take_append_drop _ _
theorem encP_pos (x : Bs × Bool) : 1 ≤ (encP x).length := by unfold encP; split <;> simp
theorem encP_len {x : Bs × Bool} (h : okP x) : (encP x).length ≤ 65 := by
  obtain ⟨_, h2, _⟩ := h
  unfold encP; split <;> simp; omega
theorem encs_app (a b : List (Bs × Bool)) : encs (a ++ b) = encs a ++ encs b := List.flatMap_append
theorem encs_len : ∀ {l : List (Bs × Bool)}, (∀ x ∈ l, okP x) → (encs l).length ≤ 65 * l.length
  | [], _ => by simp [encs]
  | x :: l, h => by
    have h1 := encP_len (h x (by simp))
    have h2 := encs_len (l := l) (fun y hy => h y (by simp [hy]))
    unfold encs at h2 ⊢
    rw [List.flatMap_cons, List.length_append, List.length_cons]; omega
theorem packM_pos {p f : Bs} (h : packM p = some f) (hp : p ≠ []) : 1 ≤ f.length := by
  unfold packM at h
  split at h
  · cases h
    rw [pcs_step hp]
    unfold encs
    rw [List.flatMap_cons, List.length_append]
    have := encP_pos (List.take (pieceN p) p, decide (3 ≤ eqN p))
    omega
  · cases h
theorem packM_le {p f : Bs} (h : packM p = some f) : f.length ≤ 47 ∧ f = encs (pcs p) := by
  unfold packM at h
  split at h
  · rename_i h1; cases h; exact ⟨h1, rfl⟩
  · cases h
theorem run_eq {s : Bs} (h : ∀ j, j < s.length → s[j]? = s[0]?) (h1 : 1 ≤ s.length) : s = List.replicate s.length (s.headD 0) := by
  apply List.ext_getElem?
  intro j
  by_cases hj : j < s.length
  · rw [h j hj, List.getElem?_replicate, if_pos hj]
    cases s with
    | nil => simp at h1
    | cons x s => rfl
  · rw [List.getElem?_eq_none (by omega), List.getElem?_eq_none (by simp; omega)]
theorem pcs_len : ∀ (l : List (Bs × Bool)), (∀ x ∈ l, okP x) → l.length ≤ (l.flatMap (·.1)).length
  | [], _ => by simp
  | x :: l, h => by
    have h1 := pcs_len l (fun y hy => h y (List.mem_cons_of_mem _ hy))
    have h2 := (h x (by simp)).1
    rw [List.flatMap_cons, List.length_append, List.length_cons]; omega
theorem pcs_facts {p : Bs} (hp : p.length ≤ 64) : (∀ x ∈ pcs p, okP x) ∧ (pcs p).flatMap (·.1) = p ∧ (pcs p).length ≤ 64 := by
  obtain ⟨h1, h2⟩ := pcs_ok p.length p (Nat.le_refl _) hp
  have := pcs_len _ h1
  rw [h2] at this
  exact ⟨h1, h2, by omega⟩
def bldZ (b : Nat) (bs : Bs) : Th := exT fun q : Value × Value => starL [tblkT 79 b [q.1, q.2], bufZT 5 q.2 bs]
theorem bldZ_of {w : World} {b : Nat} {bs : Bs} {As : List Th} (h : Sat w (bldT b bs :: As)) : Sat w (bldZ b bs :: As) := by
  obtain ⟨p, v, _, h1⟩ := bldT_open h
  have h2 := (h1.pull 1 rfl).bufZ_of; dsimp only [List.eraseIdx] at h2
  exact Sat.ex_intro (f := fun q : Value × Value => starL [tblkT 79 b [q.1, q.2], bufZT 5 q.2 bs]) (p, v) (Sat.fold (As := [tblkT 79 b [p, v], bufZT 5 v bs]) (h2.perm (List.Perm.swap _ _ _)))
theorem bl_len {w : World} {b : Nat} {bs : Bs} {F : Th} (hS : Sat w [bldT b bs, F]) :
    Calls Tryz.prog 47 #[ptrV b 0] w (Ret fun v w' => v = intV (bs.length : Int) ∧ Sat w' [bldT b bs, F]) := by
 obtain ⟨p, v, hp, hS⟩ := bldT_open hS
 obtain ⟨ao, cap, rfl, h1v, hq⟩ := hS.bufv 1 rfl
 refine calls_enter Tryz.func47 rfl Tryz.ntmps47 rfl ?_
 refine wc_seq (wc_region (wl_assign rfl rfl (wl_nil (qs_seq (wc_seq (wc_region (wl_move rfl rfl (wl_nilCheck rfl rfl ?_))))))))
 refine wl_fieldAddr rfl fo_79_1 rfl ?_
 refine wl_load rfl ag_70 (hS.tcell 0 rfl (o := 1) rfl) rfl ?_
 refine wl_lenL Tryz.underlying70 rfl rfl ?_
 refine wl_assign rfl rfl (wl_nil (qs_seq (wc_ret ?_)))
 refine fin1 (.inr rfl) rfl rfl ?_
 exact ⟨_, rfl, rfl, bldT_shut hp hS⟩
theorem bl_stringZ {w : World} {b : Nat} {bs : Bs} {F : Th} (hS : Sat w [bldZ b bs, F]) (hl : bs.length ≤ 70368744177663) :
    Calls Tryz.prog 48 #[ptrV b 0] w (Ret fun v w' => v = strV bs ∧ Sat w' [bldZ b bs, F]) := by
 obtain ⟨⟨p, v⟩, hS⟩ := hS.ex
 replace hS := hS.flat; dsimp only [List.cons_append, List.nil_append] at hS
 obtain ⟨ao, cap, rfl, h1v, hao⟩ := hS.bufZv 1 rfl
 refine calls_enter Tryz.func48 rfl Tryz.ntmps48 rfl ?_
 refine wc_seq (wc_region (wl_assign rfl rfl (wl_nil (qs_seq (wc_seq ?_)))))
 have hS1 := hS.drew
 refine wc_draw [0, 1, 2, 3, 5, 6, 7, 8, 9, 4, 10, 11] [4, 10] mix (by kernel_rfl) ?_
 refine vc_p rfl rfl rfl (fun _ => (ev_move rfl)) ?_
 refine vc_p rfl rfl rfl (fun _ => (ev_nilCheck rfl)) ?_
 refine vc_p rfl rfl rfl (fun _ => (ev_fieldAddr rfl fo_79_1)) ?_
 refine vc_q rfl rfl rfl (ev_load rfl ag_70 (hS1.tcell 0 rfl (o := 1) rfl)) ?_
 refine vc_p rfl rfl rfl (fun _ => (ev_move rfl)) ?_
 refine vc_p rfl rfl rfl (fun _ => (ev_nilCheck rfl)) ?_
 refine vc_p rfl rfl rfl (fun _ => (ev_fieldAddr rfl fo_79_1)) ?_
 refine vc_q rfl rfl rfl (ev_load rfl ag_70 (hS1.tcell 0 rfl (o := 1) rfl)) ?_
 refine vc_p rfl rfl rfl (fun _ => (ev_lenL Tryz.underlying70 rfl)) ?_
 refine vc_s rfl rfl rfl rfl rfl rfl ?_
 refine wl_sliceData rfl hao rfl ?_
 refine vc_e (.cons (.inl ⟨rfl, (ev_load rfl ag_70 (hS1.tcell 0 rfl (o := 1) rfl))⟩) (.skip (by kernel_rfl) .nil)) ?_
 refine vc_s rfl rfl rfl rfl rfl rfl ?_
 refine wl_unsafeStringZ 1 hS1 rfl rfl rfl Tryz.underlying112 bl_byte (by omega) rfl ?_
 intro w2 hS2
 clear hS1
 refine vc_e (.skip (by kernel_rfl) (.skip (by kernel_rfl) .nil)) ?_
 refine vc_p rfl rfl rfl (fun _ => (ev_assign rfl)) ?_
 refine VC.nil (qs_seq ?_)
 refine wc_sub (L' := [(2, _)]) (.cons rfl .nil) ?_
 refine wc_ret ?_
 refine fin1 (.inr rfl) rfl rfl ?_
 exact ⟨_, rfl, rfl, Sat.ex_intro (f := fun q : Value × Value => starL [tblkT 79 b [q.1, q.2], bufZT 5 q.2 bs]) (p, .slice ao bs.length cap) (Sat.fold (As := [tblkT 79 b [p, _], bufZT 5 _ bs]) hS2)⟩
set_option maxRecDepth 100000 in
theorem cequal_sp {w : World} {F : Th} (hS : Sat w [F]) (s : Bs) (k : Nat) (hk : k < s.length) (hl : s.length ≤ 1000) :
    Calls Tryz.prog 78 #[strV s, intV (k : Int)] w (Ret fun v w' => v = intV (eqN (s.drop k) : Nat) ∧ Sat w' [F]) := by
 obtain ⟨x, h0⟩ : ∃ x, s[k]? = some x := ⟨_, List.getElem?_eq_getElem hk⟩
 refine calls_enter Tryz.func78 rfl Tryz.ntmps78 rfl ?_
 refine wc_seq (wc_region (wl_assign rfl rfl (wl_nil (qs_seq (wc_seq (wc_region (wl_assign rfl rfl (wl_nil (qs_seq (wc_seq (wc_block ?_)))))))))))
 refine wc_loop (fun K0 E0 W0 => ∃ (n : Nat), K0 = s.length - k - n ∧ E0 = [(0, strV s), (1, intV (k : Int)), (5, intV (n : Int))] ∧ Sat W0 [F] ∧ (1 ≤ n) ∧ (k + n ≤ s.length) ∧ (∀ j, j < n → s[k + j]? = some x)) (L0 := [(0, _), (1, _), (5, _)]) (s.length - k - 1) (.cons rfl (.cons rfl (.cons rfl .nil))) ⟨1, rfl, rfl, hS, Nat.le_refl _, by omega, fun j hj => by rw [show k + j = k by omega]; exact h0⟩ ?_
 rintro _ _ w1 ⟨n, rfl, rfl, hS1, hn, hle, he⟩
 refine wc_seq (wc_seq ?_)
 have hS2 := hS1.drew
 refine wc_draw [0, 1, 2, 3, 4, 5, 6, 7, 8, 9, 10, 11, 12, 13, 14, 15, 16] [] mix (by kernel_rfl) ?_
 refine vc_p rfl rfl rfl (fun _ => (ev_move rfl)) ?_
 refine vc_p rfl rfl rfl (fun _ => (ev_move rfl)) ?_
 refine vc_p rfl rfl rfl (fun _ => (ev_add rfl rfl (by omega) (by omega))) ?_
 refine vc_p rfl rfl rfl (fun _ => (ev_move rfl)) ?_
 refine vc_p rfl rfl rfl (fun _ => (ev_lenS Tryz.underlying9 rfl)) ?_
 refine vc_p rfl rfl rfl (fun _ => (ev_lss rfl rfl)) ?_
 refine vc_p rfl rfl rfl (fun _ => (ev_move rfl)) ?_
 refine vc_splitD 12 rfl (fun h3 => ?_) (fun h3 => ?_)
 ·obtain ⟨y, hy⟩ : ∃ y, s[k + n]? = some y := ⟨_, List.getElem?_eq_getElem (by omega)⟩
  refine vc_p rfl rfl (guard_yes rfl rfl (decide_eq_true h3)) (fun _ => (Ev.gd (ev_move rfl))) ?_
  refine vc_p rfl rfl (guard_yes rfl rfl (decide_eq_true h3)) (fun _ => (Ev.gd (ev_move rfl))) ?_
  refine vc_p rfl rfl (guard_yes rfl rfl (decide_eq_true h3)) (fun _ => (Ev.gd (ev_move rfl))) ?_
  refine vc_p rfl rfl (guard_yes rfl rfl (decide_eq_true h3)) (fun _ => (Ev.gd (ev_add rfl rfl (by omega) (by omega)))) ?_
  refine vc_q rfl rfl (guard_yes rfl rfl (decide_eq_true h3)) (Ev.gd (ev_indexS (k + n) Tryz.underlying9 rfl rfl (by omega) hy)) ?_
  refine vc_p rfl rfl (guard_yes rfl rfl (decide_eq_true h3)) (fun _ => (Ev.gd (ev_move rfl))) ?_
  refine vc_p rfl rfl (guard_yes rfl rfl (decide_eq_true h3)) (fun _ => (Ev.gd (ev_move rfl))) ?_
  refine vc_q rfl rfl (guard_yes rfl rfl (decide_eq_true h3)) (Ev.gd (ev_indexS k Tryz.underlying9 rfl rfl rfl h0)) ?_
  refine vc_p rfl rfl (guard_yes rfl rfl (decide_eq_true h3)) (fun _ => (Ev.gd (ev_eql rfl rfl))) ?_
  refine vc_p rfl rfl rfl (fun _ => (ev_pickT rfl (decide_eq_true h3) rfl)) ?_
  refine VC.nil (qs_seq ?_)
  refine wc_sub (L' := [(22, _), (0, _), (1, _), (5, _)]) (.cons rfl (.cons rfl (.cons rfl (.cons rfl .nil)))) ?_
  refine wc_condD rfl (fun h4 => ?_) (fun h4 => ?_)
  ·have hyx : y = x := UInt8.toNat_inj.1 (by have := h4; omega)
   refine wc_skip (qs_seq (wc_block (wc_region (wl_move rfl rfl ?_))))
   refine wl_add rfl rfl (by omega) (by omega) rfl ?_
   refine wl_assign rfl rfl (wl_nil (qs_block_normal ?_))
   exact qs_round (L1 := [(0, _), (1, _), (5, intV ((n + 1 : Nat) : Int))]) (.cons rfl (.cons rfl (.cons rfl .nil))) (k1 := s.length - k - (n + 1)) (by omega) ⟨n + 1, rfl, rfl, hS2.pick [0] rfl, by omega, by omega, fun j hj => by by_cases e : j = n; (subst e; rw [hy, hyx]); exact he j (by omega)⟩
  have hyx : y ≠ x := fun q => h4 (by rw [q])
  refine wc_exit (qs_then_exit (qs_then_exit (qs_block_exit (qs_seq (wc_seq (wc_region (wl_move rfl rfl (wl_assign rfl rfl (wl_nil (qs_seq (wc_ret ?_)))))))))))
  refine fin1 (.inr rfl) rfl rfl ?_
  exact ⟨_, rfl, by rw [eqN_eq h0 hn hle he (.inr ⟨y, hy, hyx⟩)], hS2.pick [0] rfl⟩
 refine vc_not rfl rfl (guard_no rfl rfl (decide_eq_false h3)) ?_
 refine vc_not rfl rfl (guard_no rfl rfl (decide_eq_false h3)) ?_
 refine vc_not rfl rfl (guard_no rfl rfl (decide_eq_false h3)) ?_
 refine vc_not rfl rfl (guard_no rfl rfl (decide_eq_false h3)) ?_
 refine vc_not rfl rfl (guard_no rfl rfl (decide_eq_false h3)) ?_
 refine vc_not rfl rfl (guard_no rfl rfl (decide_eq_false h3)) ?_
 refine vc_not rfl rfl (guard_no rfl rfl (decide_eq_false h3)) ?_
 refine vc_not rfl rfl (guard_no rfl rfl (decide_eq_false h3)) ?_
 refine vc_not rfl rfl (guard_no rfl rfl (decide_eq_false h3)) ?_
 refine vc_p rfl rfl rfl (fun _ => (ev_pickF rfl (decide_eq_false h3) rfl)) ?_
 refine VC.nil (qs_seq ?_)
 refine wc_sub (L' := [(22, _), (0, _), (1, _), (5, _)]) (.cons rfl (.cons rfl (.cons rfl (.cons rfl .nil)))) ?_
 refine wc_condF rfl ?_
 refine wc_exit (qs_then_exit (qs_then_exit (qs_block_exit (qs_seq (wc_seq (wc_region (wl_move rfl rfl (wl_assign rfl rfl (wl_nil (qs_seq (wc_ret ?_)))))))))))
 refine fin1 (.inr rfl) rfl rfl ?_
 exact ⟨_, rfl, by rw [eqN_eq h0 hn hle he (.inl (by omega))], hS2.pick [0] rfl⟩
def okPc (p : Bs) (ks : List (Bs × Bool)) (k : Bs × Bool) : Prop := ∃ rest, pcs p = ks ++ k :: rest
def YieldsP (P : Program) (l : Nat) (ok : List (Bs × Bool) → Bs × Bool → Prop) (J : List (Bs × Bool) → Th) : Prop :=
  ∀ (ks : List (Bs × Bool)) (k : Bs × Bool) (R : Th) (w : World), ok ks k → Sat w [J ks, R] → YieldAt Fence.wide 0 P l #[strV k.1, .bool k.2] w (fun e w' => e = .returned (.bool true) ∧ Sat w' [J (ks ++ [k]), R])
theorem lit_zero {s : Bs} {k : Nat} (h : k = s.length ∨ 3 ≤ eqN (s.drop k)) : lit (s.drop k) = 0 := lit_stop (by rcases h with h | h; exact .inl (by rw [h, List.drop_length]); exact .inr h)
set_option maxRecDepth 100000 in
theorem pcs_it {w : World} {l c : Nat} {page : Bs} {J : List (Bs × Bool) → Th} {F : Th} (hpl : page.length ≤ 1000) (hS : Sat w [J [], blkT c [strV page], F]) (hY : YieldsP Tryz.prog l (okPc page) J) :
    Calls Tryz.prog 77 #[.func (.yield l) #[] #[], ptrV c 0] w (Ret fun v w' => Sat w' [J (pcs page), blkT c [strV page], F]) := by
 refine calls_enter Tryz.func77 rfl Tryz.ntmps77 rfl ?_
 refine wc_seq (wc_region (wl_assign rfl rfl (wl_nil (qs_seq (wc_block ?_)))))
 refine wc_loop (fun K0 E0 W0 => ∃ (ks : List (Bs × Bool)) (a : Nat), K0 = page.length - a ∧ E0 = [(0, .func (.yield l) #[] #[]), (1, ptrV c 0), (3, intV (a : Int))] ∧ Sat W0 [J ks, blkT c [strV page], F] ∧ (pcs page = ks ++ pcs (page.drop a)) ∧ (a ≤ page.length)) (L0 := [(0, _), (1, _), (3, _)]) (page.length - 0) (.cons rfl (.cons rfl (.cons rfl .nil))) ⟨[], 0, rfl, rfl, hS, by simp, by omega⟩ ?_
 rintro _ _ w1 ⟨ks, a, rfl, rfl, hS1, hks, hal⟩
 refine wc_seq (wc_seq (wc_region (wl_move rfl rfl ?_)))
 refine wl_load rfl ag_9 (by first | assumption | exact hS1.cell 1 rfl rfl) rfl ?_
 refine wl_lenS Tryz.underlying9 rfl rfl ?_
 refine wl_lss rfl rfl rfl ?_
 refine wl_nil (qs_seq ?_)
 refine wc_condD rfl (fun h2 => ?_) (fun h2 => ?_)
 ·have he1 := eqN_pos (l := page.drop a) (fun q => by have := congrArg List.length q; rw [List.length_drop] at this; simp at this; omega)
  have he2 : a + eqN (page.drop a) ≤ page.length := by have := eqN_le (page.drop a); rw [List.length_drop] at this; omega
  refine wc_skip (qs_seq (wc_block (wc_seq (wc_region ?_))))
  refine wl_load rfl ag_9 (by first | assumption | exact hS1.cell 1 rfl rfl) rfl ?_
  refine wl_move rfl rfl ?_
  have hC3 := hS1.split [] [false, false, false] rfl; dsimp only [selF, pickA, nthA, List.cons_append, List.nil_append] at hC3
  refine wl_call cal_78 rfl (cequal_sp hC3 page (a) (by omega) hpl) rfl ?_
  rintro e w3 ⟨_, rfl, rfl, hS3⟩; refine ⟨_, rfl, ?_⟩
  replace hS3 := hS3.join rfl; dsimp only [List.dropLast, List.cons_append, List.nil_append] at hS3; clear hC3
  clear hS1
  refine wl_assign rfl rfl (wl_assign rfl rfl (wl_nil (qs_seq ?_)))
  refine wc_sub (L' := [(5, _), (4, _), (0, _), (1, _), (3, _)]) (.cons rfl (.cons rfl (.cons rfl (.cons rfl (.cons rfl .nil))))) ?_
  refine wc_seq (wc_seq (wc_region (wl_move rfl rfl ?_)))
  refine wl_lss rfl rfl rfl ?_
  refine wl_nil (qs_seq ?_)
  refine wc_condD rfl (fun h4 => ?_) (fun h4 => ?_)
  ·refine wc_seq (wc_region (wl_assign rfl rfl (wl_nil (qs_seq (wc_block ?_)))))
   refine wc_loop (fun K0 E0 W0 => ∃ (m : Nat), K0 = page.length - a - m ∧ E0 = [(0, .func (.yield l) #[] #[]), (1, ptrV c 0), (3, intV (a : Int)), (4, intV (m : Int)), (5, .bool false)] ∧ Sat W0 [J ks, blkT c [strV page], F] ∧ (1 ≤ m) ∧ (a + m ≤ page.length) ∧ (eqN (page.drop a) + lit (page.drop (a + eqN (page.drop a))) = m + lit (page.drop (a + m)))) (L0 := [(0, _), (1, _), (3, _), (4, _), (5, _)]) (page.length - a - eqN (page.drop a)) (.cons rfl (.cons rfl (.cons rfl (.cons rfl (.cons rfl .nil))))) ⟨eqN (page.drop a), rfl, rfl, hS3, he1, he2, rfl⟩ ?_
   rintro _ _ w5 ⟨m, rfl, rfl, hS5, hm1, hm2, hm3⟩
   refine wc_seq (wc_seq (wc_region (wl_move rfl rfl (wl_move rfl rfl ?_))))
   refine wl_add rfl rfl (by omega) (by omega) rfl ?_
   refine wl_load rfl ag_9 (by first | assumption | exact hS5.cell 1 rfl rfl) rfl ?_
   refine wl_lenS Tryz.underlying9 rfl rfl ?_
   refine wl_lss rfl rfl rfl ?_
   refine wl_move rfl rfl ?_
   refine wl_splitD 21 rfl (fun h6 => ?_) (fun h6 => ?_)
   ·refine wl_guard rfl rfl (decide_eq_true h6) ?_
    refine wl_load rfl ag_9 (by first | assumption | exact hS5.cell 1 rfl rfl) rfl ?_
    refine wl_guard rfl rfl (decide_eq_true h6) ?_
    refine wl_move rfl rfl ?_
    refine wl_guard rfl rfl (decide_eq_true h6) ?_
    refine wl_move rfl rfl ?_
    refine wl_guard rfl rfl (decide_eq_true h6) ?_
    refine wl_add rfl rfl (by omega) (by omega) rfl ?_
    refine wl_guard rfl rfl (decide_eq_true h6) ?_
    have hC7 := hS5.split [] [false, false, false] rfl; dsimp only [selF, pickA, nthA, List.cons_append, List.nil_append] at hC7
    refine wl_call cal_78 rfl (cequal_sp hC7 page (a + m) (by omega) hpl) rfl ?_
    rintro e w7 ⟨_, rfl, rfl, hS7⟩; refine ⟨_, rfl, ?_⟩
    replace hS7 := hS7.join rfl; dsimp only [List.dropLast, List.cons_append, List.nil_append] at hS7; clear hC7
    clear hS5
    refine wl_guard rfl rfl (decide_eq_true h6) ?_
    refine wl_lss rfl rfl rfl ?_
    refine wl_pickT rfl (decide_eq_true h6) rfl rfl ?_
    refine wl_nil (qs_seq ?_)
    refine wc_sub (L' := [(28, _), (0, _), (1, _), (3, _), (4, _), (5, _)]) (.cons rfl (.cons rfl (.cons rfl (.cons rfl (.cons rfl (.cons rfl .nil)))))) ?_
    refine wc_condD rfl (fun h8 => ?_) (fun h8 => ?_)
    ·refine wc_skip (qs_seq (wc_block (wc_region (wl_move rfl rfl ?_))))
     refine wl_add rfl rfl (by omega) (by omega) rfl ?_
     refine wl_assign rfl rfl (wl_nil (qs_block_normal ?_))
     exact qs_round (L1 := [(0, _), (1, _), (3, _), (4, intV ((m + 1 : Nat) : Int)), (5, _)]) (.cons rfl (.cons rfl (.cons rfl (.cons rfl (.cons rfl .nil))))) (k1 := page.length - a - (m + 1)) (by omega) ⟨m + 1, rfl, rfl, hS7.pick [0, 1, 2] rfl, by omega, by omega, by rw [hm3, lit_step (List.getElem?_eq_getElem (by omega)) (by omega), show a + (m + 1) = a + m + 1 by omega]; omega⟩
    refine wc_exit (qs_then_exit (qs_then_exit (qs_block_exit (qs_seq (wc_seq (wc_seq ?_))))))
    have hm : pieceN (page.drop a) = m := by unfold pieceN; rw [if_neg (by omega), List.drop_drop]; have := lit_zero (s := page) (k := a + m) (.inr (by omega)); omega
    have hbb : decide (3 ≤ eqN (page.drop a)) = false := by exact decide_eq_false (by omega)
    have hpc : pcs page = ks ++ ((page.take (a + m)).drop a, false) :: pcs (page.drop (a + m)) := by rw [hks, pcs_step (l := page.drop a) (fun q => by have := congrArg List.length q; rw [List.length_drop] at this; simp at this; omega), List.drop_drop, hm, hbb, List.drop_take, show a + m - a = m by omega]
    have hSy := (hS7.split [0] [true, false, false] rfl); dsimp only [selF, pickA, nthA, List.cons_append, List.nil_append] at hSy
    refine wc_regionI ?_
    refine wlI_val rfl (ev_move rfl) ?_
    refine wlI_val rfl (ev_load rfl ag_9 (hS7.cell 1 rfl rfl)) ?_
    refine wlI_val rfl (ev_move rfl) ?_
    refine wlI_val rfl (ev_move rfl) ?_
    refine wlI_val rfl (ev_move rfl) ?_
    refine wlI_val rfl (ev_add rfl rfl (by omega) (by omega)) ?_
    refine wlI_val rfl (ev_sliceS a (a + m) Tryz.underlying9 rfl (bndS a _ rfl rfl) (bndS (a + m) _ rfl (by omega)) (by omega) (by omega)) ?_
    refine wlI_val rfl (ev_move rfl) ?_
    refine wlI_yield2 rfl rfl rfl rfl (hY ks ((page.take (a + m)).drop a, false) _ _ ⟨_, hpc⟩ hSy) ?_
    intro w5 hS5; replace hS5 := hS5.join rfl; dsimp only [List.dropLast, List.cons_append, List.nil_append] at hS5
    refine wlI_val rfl (ev_not rfl) ?_
    refine wlI_nil ?_
    refine qs_seq ?_
    refine wc_sub (L' := [(40, _), (0, _), (1, _), (3, _), (4, _)]) (.cons rfl (.cons rfl (.cons rfl (.cons rfl (.cons rfl .nil))))) ?_
    refine wc_condF rfl ?_
    refine wc_skip (qs_seq (wc_region (wl_move rfl rfl (wl_move rfl rfl ?_))))
    refine wl_add rfl rfl (by omega) (by omega) rfl ?_
    refine wl_assign rfl rfl (wl_nil (qs_block_normal ?_))
    exact qs_round (L1 := [(0, _), (1, _), (3, intV ((a + m : Nat) : Int))]) (.cons rfl (.cons rfl (.cons rfl .nil))) (k1 := page.length - (a + m)) (by omega) ⟨_, a + m, rfl, rfl, hS5.pick [0, 1, 2] rfl, by rw [hpc, List.append_assoc]; rfl, by omega⟩
   refine wl_unwanted rfl rfl (decide_eq_false h6) rfl ?_
   refine wl_unwanted rfl rfl (decide_eq_false h6) rfl ?_
   refine wl_unwanted rfl rfl (decide_eq_false h6) rfl ?_
   refine wl_unwanted rfl rfl (decide_eq_false h6) rfl ?_
   refine wl_unwanted rfl rfl (decide_eq_false h6) rfl ?_
   refine wl_unwanted rfl rfl (decide_eq_false h6) rfl ?_
   refine wl_pickF rfl (decide_eq_false h6) rfl rfl ?_
   refine wl_nil (qs_seq ?_)
   refine wc_sub (L' := [(28, _), (0, _), (1, _), (3, _), (4, _), (5, _)]) (.cons rfl (.cons rfl (.cons rfl (.cons rfl (.cons rfl (.cons rfl .nil)))))) ?_
   refine wc_condF rfl ?_
   refine wc_exit (qs_then_exit (qs_then_exit (qs_block_exit (qs_seq (wc_seq (wc_seq ?_))))))
   have hm : pieceN (page.drop a) = m := by unfold pieceN; rw [if_neg (by omega), List.drop_drop]; have := lit_zero (s := page) (k := a + m) (.inl (by omega)); omega
   have hbb : decide (3 ≤ eqN (page.drop a)) = false := by exact decide_eq_false (by omega)
   have hpc : pcs page = ks ++ ((page.take (a + m)).drop a, false) :: pcs (page.drop (a + m)) := by rw [hks, pcs_step (l := page.drop a) (fun q => by have := congrArg List.length q; rw [List.length_drop] at this; simp at this; omega), List.drop_drop, hm, hbb, List.drop_take, show a + m - a = m by omega]
   have hSy := (hS5.split [0] [true, false, false] rfl); dsimp only [selF, pickA, nthA, List.cons_append, List.nil_append] at hSy
   refine wc_regionI ?_
   refine wlI_val rfl (ev_move rfl) ?_
   refine wlI_val rfl (ev_load rfl ag_9 (hS5.cell 1 rfl rfl)) ?_
   refine wlI_val rfl (ev_move rfl) ?_
   refine wlI_val rfl (ev_move rfl) ?_
   refine wlI_val rfl (ev_move rfl) ?_
   refine wlI_val rfl (ev_add rfl rfl (by omega) (by omega)) ?_
   refine wlI_val rfl (ev_sliceS a (a + m) Tryz.underlying9 rfl (bndS a _ rfl rfl) (bndS (a + m) _ rfl (by omega)) (by omega) (by omega)) ?_
   refine wlI_val rfl (ev_move rfl) ?_
   refine wlI_yield2 rfl rfl rfl rfl (hY ks ((page.take (a + m)).drop a, false) _ _ ⟨_, hpc⟩ hSy) ?_
   intro w5 hS5; replace hS5 := hS5.join rfl; dsimp only [List.dropLast, List.cons_append, List.nil_append] at hS5
   refine wlI_val rfl (ev_not rfl) ?_
   refine wlI_nil ?_
   refine qs_seq ?_
   refine wc_sub (L' := [(40, _), (0, _), (1, _), (3, _), (4, _)]) (.cons rfl (.cons rfl (.cons rfl (.cons rfl (.cons rfl .nil))))) ?_
   refine wc_condF rfl ?_
   refine wc_skip (qs_seq (wc_region (wl_move rfl rfl (wl_move rfl rfl ?_))))
   refine wl_add rfl rfl (by omega) (by omega) rfl ?_
   refine wl_assign rfl rfl (wl_nil (qs_block_normal ?_))
   exact qs_round (L1 := [(0, _), (1, _), (3, intV ((a + m : Nat) : Int))]) (.cons rfl (.cons rfl (.cons rfl .nil))) (k1 := page.length - (a + m)) (by omega) ⟨_, a + m, rfl, rfl, hS5.pick [0, 1, 2] rfl, by rw [hpc, List.append_assoc]; rfl, by omega⟩
  refine wc_skip (qs_seq (wc_seq (wc_seq ?_)))
  obtain ⟨m, hm0⟩ : ∃ m, m = eqN (page.drop a) := ⟨_, rfl⟩
  have hm : pieceN (page.drop a) = m := by unfold pieceN; rw [if_pos (by omega), hm0]
  have hbb : decide (3 ≤ eqN (page.drop a)) = true := by exact decide_eq_true (by omega)
  rw [← hm0]
  have hpc : pcs page = ks ++ ((page.take (a + m)).drop a, true) :: pcs (page.drop (a + m)) := by rw [hks, pcs_step (l := page.drop a) (fun q => by have := congrArg List.length q; rw [List.length_drop] at this; simp at this; omega), List.drop_drop, hm, hbb, List.drop_take, show a + m - a = m by omega]
  have hSy := (hS3.split [0] [true, false, false] rfl); dsimp only [selF, pickA, nthA, List.cons_append, List.nil_append] at hSy
  refine wc_regionI ?_
  refine wlI_val rfl (ev_move rfl) ?_
  refine wlI_val rfl (ev_load rfl ag_9 (hS3.cell 1 rfl rfl)) ?_
  refine wlI_val rfl (ev_move rfl) ?_
  refine wlI_val rfl (ev_move rfl) ?_
  refine wlI_val rfl (ev_move rfl) ?_
  refine wlI_val rfl (ev_add rfl rfl (by omega) (by omega)) ?_
  refine wlI_val rfl (ev_sliceS a (a + m) Tryz.underlying9 rfl (bndS a _ rfl rfl) (bndS (a + m) _ rfl (by omega)) (by omega) (by omega)) ?_
  refine wlI_val rfl (ev_move rfl) ?_
  refine wlI_yield2 rfl rfl rfl rfl (hY ks ((page.take (a + m)).drop a, true) _ _ ⟨_, hpc⟩ hSy) ?_
  intro w5 hS5; replace hS5 := hS5.join rfl; dsimp only [List.dropLast, List.cons_append, List.nil_append] at hS5
  refine wlI_val rfl (ev_not rfl) ?_
  refine wlI_nil ?_
  refine qs_seq ?_
  refine wc_sub (L' := [(40, _), (4, _), (0, _), (1, _), (3, _)]) (.cons rfl (.cons rfl (.cons rfl (.cons rfl (.cons rfl .nil))))) ?_
  refine wc_condF rfl ?_
  refine wc_skip (qs_seq (wc_region (wl_move rfl rfl (wl_move rfl rfl ?_))))
  refine wl_add rfl rfl (by omega) (by omega) rfl ?_
  refine wl_assign rfl rfl (wl_nil (qs_block_normal ?_))
  exact qs_round (L1 := [(0, _), (1, _), (3, intV ((a + m : Nat) : Int))]) (.cons rfl (.cons rfl (.cons rfl .nil))) (k1 := page.length - (a + m)) (by omega) ⟨_, a + m, rfl, rfl, hS5.pick [0, 1, 2] rfl, by rw [hpc, List.append_assoc]; rfl, by omega⟩
 refine wc_exit (qs_then_exit (qs_then_exit (qs_block_exit ?_)))
 refine fin0 (.inl rfl) rfl ?_
 exact ⟨_, rfl, by rw [show a = page.length by omega, List.drop_length, pcs_nil, List.append_nil] at hks; rw [hks]; exact hS1⟩
theorem pcs_sp {w : World} {page : Bs} {F : Th} (hS : Sat w [F]) :
    Calls Tryz.prog 44 #[strV page] w (Ret fun v w' => ∃ c, v = .func (.func 77) #[] #[ptrV c 0] ∧ Sat w' [blkT c [strV page], F]) := by
 refine calls_enter Tryz.func44 rfl Tryz.ntmps44 rfl ?_
 refine wc_seq (wc_region ?_)
 refine wl_box hS rfl rfl rfl ?_
 intro b1 w1 hS1
 refine wl_assign rfl rfl (wl_nil (qs_seq (wc_seq (wc_region ?_))))
 refine wl_makeFunc rfl rfl ?_
 refine wl_assign rfl rfl (wl_nil (qs_seq (wc_ret ?_)))
 refine fin1 (.inr rfl) rfl rfl ?_
 exact ⟨_, rfl, _, rfl, hS1⟩
end Go.Proofs.YtnicmcdeoimhlaaGreat
/- compress: Pack -/
namespace Go.Proofs.YtnicmcdeoimhlaaGreat
open Go.RowKit M
set_option linter.unusedVariables false
def packV (o : Option Bs) : Value := .tuple #[strV (o.getD []), .bool o.isSome]
def Jp (l D b : Nat) (rec : Loop) (ks : List (Bs × Bool)) : Th := starL [loopT l rec, deferT D, bldT b (encs ks)]
set_option maxRecDepth 100000 in
set_option maxHeartbeats 800000 in
theorem pack_sp {w : World} {F : Th} (hS : Sat w [F]) (page : Bs) (hp : page.length = 64) :
    Calls Tryz.prog 20 #[strV page] w (Ret fun v w' => v = packV (packM page) ∧ Sat w' [F]) := by
 obtain ⟨hpo, hpf, hpl⟩ := pcs_facts (p := page) (by omega)
 have heL := encs_len hpo
 refine calls_enterM Tryz.func20 rfl Tryz.ntmps20 rfl ?_
 refine wc_seq (wc_region (wl_assign rfl rfl (wl_assign rfl rfl (wl_nil (qs_seq (wc_seq (wc_seq (wc_region (wl_move rfl rfl ?_)))))))))
 refine wl_lenS Tryz.underlying9 rfl rfl ?_
 refine wl_neq rfl rfl rfl ?_
 refine wl_nil (qs_seq ?_)
 refine wc_condD rfl (fun h1 => ?_) (fun h1 => ?_)
 ·exact absurd h1 (by simp; omega)
 refine wc_skip (qs_seq (wc_seq (wc_region ?_)))
 refine wl_allocT hS zr_79 (cs := [.pointer none, .slice none 0 0]) rfl rfl ?_
 intro bb wB hSB
 have hSC := bldT_shut (.inl rfl) ((bufT_nil hSB).perm (List.Perm.swap _ _ _))
 refine wl_nil (qs_seq (wc_seq (wc_seq (wc_region (wl_move rfl rfl ?_)))))
 have hC2 := hSC.split [] [false, false] rfl; dsimp only [selF, pickA, nthA, List.cons_append, List.nil_append] at hC2
 refine wl_call cal_44 rfl (pcs_sp hC2 (page := page)) rfl ?_
 rintro e w2 ⟨_, rfl, c, rfl, hS2⟩; refine ⟨_, rfl, ?_⟩
 replace hS2 := hS2.join rfl; dsimp only [List.dropLast, List.cons_append, List.nil_append] at hS2; clear hC2
 clear hSC
 refine wl_nil (qs_seq (wc_block ?_))
 refine wc_rangeFunc (caps := [ptrV c 0]) rfl cal_77 ?_
 intro rec hr1 hr2 hr3 hr4 hr5 htn htf
 have hE := hS2.enter_loop rec
 have hE2 := hE.pick [0, 1, 3, 2, 4] rfl
 have hE3 := Sat.fold (As := [loopT _ rec, deferT _, bldT _ (encs [])]) hE2
 refine (pcs_it (J := Jp _ _ bb rec) (by omega) hE3 ?_).mono ?_
 rotate_left
 ·rintro e w3 ⟨v0, rfl, hw3⟩
  have hw4 := hw3.flat; dsimp only [List.cons_append, List.nil_append] at hw4
  refine ⟨⟨v0, rfl⟩, rec, hw4.loop 0 rfl, by rw [hr1]; simp, hr2, ?_⟩
  intro a0 ha1 ha2
  have hw5 := hw4.loop_put 0 rfl (rec' := { rec with state := .exhausted }); dsimp only [List.set] at hw5
  refine qsD_app (n := 32) ha2 (by rw [ha1]; exact htn) (by rw [ha1]; exact htf) ?_
  refine qsD_block_normal ?_
  refine qsD_seq ?_
  refine wcD_seq ?_
  refine wcD_seq ?_
  refine wcD_region ?_
  have hC3 := hw5.split [2] [false, false, true, false, false] rfl; dsimp only [selF, pickA, nthA, List.cons_append, List.nil_append] at hC3
  refine wl_call cal_47 rfl (bl_len hC3) rfl ?_
  rintro e w3 ⟨_, rfl, rfl, hS3⟩; refine ⟨_, rfl, ?_⟩
  replace hS3 := hS3.join rfl; dsimp only [List.dropLast, List.cons_append, List.nil_append] at hS3; clear hC3
  clear hw5
  refine wl_gtr rfl rfl rfl ?_
  refine wl_nil ?_
  refine qsD_of ?_
  refine qsD_seq ?_
  refine wcD_sub (L' := [(30, _), (4, _), (3, _), (2, _)]) (.cons rfl (.cons rfl (.cons rfl (.cons rfl .nil)))) ?_
  refine wcD_condD rfl (fun h4 => ?_) (fun h4 => ?_)
  ·refine wcD_seq ?_
   refine wcD_region ?_
   refine wl_assign rfl rfl (wl_assign rfl rfl (wl_nil ?_))
   refine qsD_of ?_
   refine qsD_seq ?_
   refine wcD_ret ?_
   refine qsD_then_ret ?_
   obtain ⟨hD, hZ⟩ := hS3.defer_put (o := .deferred none) 2 rfl
   dsimp only [List.eraseIdx] at hZ
   refine finM (.inr rfl) hD (res2 rfl rfl rfl) ?_
   exact ⟨_, rfl, by unfold packM; rw [if_neg (by omega)]; rfl, hZ.pick [3] rfl⟩
  refine wcD_skip ?_
  refine qsD_seq ?_
  refine wcD_seq ?_
  refine wcD_region ?_
  have hC5 := hS3.split [0] [true, false, false, false, false] rfl; dsimp only [selF, pickA, nthA, List.cons_append, List.nil_append] at hC5
  refine wl_call cal_48 rfl (bl_string hC5 (by omega)) rfl ?_
  rintro e w5 ⟨_, rfl, rfl, hS5⟩; refine ⟨_, rfl, ?_⟩
  replace hS5 := hS5.join rfl; dsimp only [List.dropLast, List.cons_append, List.nil_append] at hS5; clear hC5
  clear hS3
  refine wl_assign rfl rfl (wl_assign rfl rfl (wl_nil ?_))
  refine qsD_of ?_
  refine qsD_seq ?_
  refine wcD_ret ?_
  obtain ⟨hD, hZ⟩ := hS5.defer_put (o := .deferred none) 1 rfl
  dsimp only [List.eraseIdx] at hZ
  refine finM (.inr rfl) hD (res2 rfl rfl rfl) ?_
  exact ⟨_, rfl, by unfold packM; rw [if_pos (by omega)]; rfl, hZ.pick [2] rfl⟩
 intro ks k R w2 hok hw2
 have hw4 := hw2.flat; dsimp only [Jp, List.cons_append, List.nil_append] at hw4
 have hw6 := hw4
 obtain ⟨rest, hrest⟩ := hok
 have hok1 : okP k := hpo _ (by rw [hrest]; simp)
 have hkl : ks.length ≤ 64 := by have := congrArg List.length hrest; simp at this; omega
 have hel := encs_len (l := ks) (fun y hy => hpo _ (by rw [hrest]; simp [hy]))
 obtain ⟨hk1, hk2, hk3⟩ := hok1
 refine yieldG (hw6.loop 0 rfl) hr1 hr2 hr3 hr4 hr5 htn htf rfl rfl ?_
 refine wcI_seq ?_
 refine wcI_region (by rintro ⟨_, _, q⟩; exact q) rfl ?_
 refine wl_assign rfl rfl (wl_nil ?_)
 refine qsI_seq ?_
 refine wcI_sub (L' := [(5, _), (13, _), (4, _), (3, _), (2, _)]) (.cons rfl (.cons rfl (.cons rfl (.cons rfl (.cons rfl .nil))))) ?_
 refine wcI_region (by rintro ⟨_, _, q⟩; exact q) rfl ?_
 refine wl_assign rfl rfl (wl_nil ?_)
 refine qsI_begin (hw6.loop 0 rfl) hr1 ?_
 have hw7 := hw6.loop_put 0 rfl (rec' := { rec with state := .busy }); dsimp only [List.set] at hw7
 refine wcI_block ?_
 refine wcI_seq ?_
 refine wcI_region (by rintro ⟨_, _, q⟩; exact q) rfl ?_
 refine wl_move rfl rfl (wl_nil ?_)
 refine qsI_seq ?_
 refine wcI_cond rfl (fun h6 => ?_) (fun h6 => ?_)
 ·have hkT : k.2 = true := h6
  refine wcI_seq ?_
  refine wcI_region (by rintro ⟨_, _, q⟩; exact q) rfl ?_
  refine wl_move rfl rfl ?_
  refine wl_lenS Tryz.underlying9 rfl rfl ?_
  refine wl_add rfl rfl (by omega) (by omega) rfl ?_
  refine wl_convToU8 (128 + k.1.length) Tryz.underlying3 Tryz.underlying5 rfl (by first | rfl | omega) rfl ?_
  have hC7 := hw7.split [2] [false, false, true, false] rfl; dsimp only [selF, pickA, nthA, List.cons_append, List.nil_append] at hC7
  refine wl_call cal_45 rfl (bl_writeByte hC7 (UInt8.ofNat (128 + k.1.length)) (by omega)) rfl ?_
  rintro e w7 ⟨_, rfl, rfl, hS7⟩; refine ⟨_, rfl, ?_⟩
  replace hS7 := hS7.join rfl; dsimp only [List.dropLast, List.cons_append, List.nil_append] at hS7; clear hC7
  clear hw7
  refine wl_nil ?_
  refine qsI_seq ?_
  refine wcI_sub (L' := [(5, _), (4, _), (3, _), (2, _)]) (.cons rfl (.cons rfl (.cons rfl (.cons rfl .nil)))) ?_
  refine wcI_region (by rintro ⟨_, _, q⟩; exact q) rfl ?_
  refine wl_move rfl rfl ?_
  refine wl_indexS (c := k.1.headD 0) 0 Tryz.underlying9 rfl rfl rfl (by rw [← List.head?_eq_getElem?]; cases hq : k.1 with | nil => rw [hq] at hk1; simp at hk1 | cons x l => rfl) rfl ?_
  have hC8 := hS7.split [0] [true, false, false, false] rfl; dsimp only [selF, pickA, nthA, List.cons_append, List.nil_append] at hC8
  refine wl_call cal_45 rfl (bl_writeByte hC8 (k.1.headD 0) (by simp; omega)) rfl ?_
  rintro e w8 ⟨_, rfl, rfl, hS8⟩; refine ⟨_, rfl, ?_⟩
  replace hS8 := hS8.join rfl; dsimp only [List.dropLast, List.cons_append, List.nil_append] at hS8; clear hC8
  clear hS7
  refine wl_nil ?_
  refine qsI_block_normal ?_
  refine qsI_end (hS8.loop 1 rfl) hr1 hr2 ?_
  have hw9 := hS8.loop_put 1 rfl (rec' := rec); dsimp only [List.set] at hw9
  have hek : encs (ks ++ [k]) = encs ks ++ [UInt8.ofNat (128 + k.1.length)] ++ [k.1.headD 0] := by rw [encs_app]; simp only [encs, List.flatMap_cons, List.flatMap_nil, List.append_nil]; rw [encP, if_pos hkT]; simp
  refine Sat.fold (As := [loopT _ rec, deferT _, bldT _ (encs (ks ++ [k]))]) ?_
  rw [hek]; exact hw9.pick [1, 2, 0, 3] rfl
 have hkF : k.2 = false := h6
 refine wcI_seq ?_
 refine wcI_region (by rintro ⟨_, _, q⟩; exact q) rfl ?_
 refine wl_move rfl rfl ?_
 refine wl_lenS Tryz.underlying9 rfl rfl ?_
 refine wl_convToU8 k.1.length Tryz.underlying3 Tryz.underlying5 rfl (by first | rfl | omega) rfl ?_
 have hC9 := hw7.split [2] [false, false, true, false] rfl; dsimp only [selF, pickA, nthA, List.cons_append, List.nil_append] at hC9
 refine wl_call cal_45 rfl (bl_writeByte hC9 (UInt8.ofNat k.1.length) (by omega)) rfl ?_
 rintro e w9 ⟨_, rfl, rfl, hS9⟩; refine ⟨_, rfl, ?_⟩
 replace hS9 := hS9.join rfl; dsimp only [List.dropLast, List.cons_append, List.nil_append] at hS9; clear hC9
 clear hw7
 refine wl_nil ?_
 refine qsI_seq ?_
 refine wcI_sub (L' := [(5, _), (4, _), (3, _), (2, _)]) (.cons rfl (.cons rfl (.cons rfl (.cons rfl .nil)))) ?_
 refine wcI_region (by rintro ⟨_, _, q⟩; exact q) rfl ?_
 refine wl_move rfl rfl ?_
 have hC10 := hS9.split [0] [true, false, false, false] rfl; dsimp only [selF, pickA, nthA, List.cons_append, List.nil_append] at hC10
 refine wl_call cal_46 rfl (bl_writeString hC10 k.1 (by simp; omega)) rfl ?_
 rintro e w10 ⟨_, rfl, rfl, hS10⟩; refine ⟨_, rfl, ?_⟩
 replace hS10 := hS10.join rfl; dsimp only [List.dropLast, List.cons_append, List.nil_append] at hS10; clear hC10
 clear hS9
 refine wl_nil ?_
 refine qsI_block_normal ?_
 refine qsI_end (hS10.loop 1 rfl) hr1 hr2 ?_
 have hw9 := hS10.loop_put 1 rfl (rec' := rec); dsimp only [List.set] at hw9
 have hek : encs (ks ++ [k]) = encs ks ++ [UInt8.ofNat k.1.length] ++ k.1 := by rw [encs_app]; simp only [encs, List.flatMap_cons, List.flatMap_nil, List.append_nil]; rw [encP, if_neg (by rw [hkF]; decide)]; simp
 refine Sat.fold (As := [loopT _ rec, deferT _, bldT _ (encs (ks ++ [k]))]) ?_
 rw [hek]; exact hw9.pick [1, 2, 0, 3] rfl
end Go.Proofs.YtnicmcdeoimhlaaGreat
