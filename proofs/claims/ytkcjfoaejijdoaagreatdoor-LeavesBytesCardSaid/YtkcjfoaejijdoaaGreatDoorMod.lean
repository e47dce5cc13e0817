/- Walks where the frame holds deferred calls (D), and in a round of a range over a function (I). Conditions: the rules' own hypotheses. -/
import Derived.Test.YtkcjfoaejijdoaaGreatDoorWbl
import Derived.Test.YtkcjfoaejijdoaaGreatDoorRow
namespace Go.Proofs.YtkcjfoaejijdoaaGreatDoor.M
open Go.RowKit
section
variable {P : Program} {n m l : Nat} {ops : Array Oper} {Q : Exit → Act → World → Prop} {rest : List Oper} {L : Env} {w : World} {D : List Deferred} {ty : TypeId} {pos : String} {aft : Array Edge}
def more (D : List Deferred) (a : Act) : Act := { a with defers := a.defers ++ D }
theorem Yr (a : Act) (d : Option Tmp) (v : Value) : (more D a).put d v = more D (a.put d v) := by cases d <;> rfl
theorem Ks (a : Act) : (more D a).eval = a.eval := by funext x; cases x <;> rfl
def QD (D : List Deferred) (Q : Exit → Act → World → Prop) : Exit → Act → World → Prop := fun e a w => Q e (more D a) w
theorem letsD (h : LetsOut (QD D Q)) : LetsOut Q := by obtain ⟨a, w, h⟩ := h; exact ⟨_, w, h⟩
theorem uponD {o : Oper} {a : Act} {K K' : Act → World → Prop} (hK : ∀ a w, K a w → K' (more D a) w) {r : Result Next} (h : o.upon P a K (QD D Q) r) : o.upon P (more D a) K' Q r := by
  unfold Oper.upon at h ⊢
  split at h
  · rw [Yr]; exact hK _ _ h
  · rw [Yr]; exact hK _ _ h
  · have := hK _ _ h; rw [← Yr] at this; exact this
  · refine Calls.mono h fun e w' he => ?_
    cases e with
    | returned v => dsimp only at he ⊢; rw [Yr]; exact hK _ _ he
    | panicked c => exact he
    | outgrown => exact letsD he
  · refine Rows.mono h fun v w' he => ?_
    rw [Yr]; exact hK _ _ he
  · exact h
  · exact h.elim
theorem opD {o : Oper} {a : Act} {K K' : Act → World → Prop} (hK : ∀ a w, K a w → K' (more D a) w) (h : o.wp P a w K (QD D Q) ∨ (o.asks P a w ∧ LetsOut (QD D Q))) : o.wp P (more D a) w K' Q ∨ (o.asks P (more D a) w ∧ LetsOut Q) := by
  rcases h with h | ⟨h1, h2⟩
  · refine .inl ?_
    unfold Oper.wp at h ⊢
    rw [Ks]
    exact uponD hK h
  · refine .inr ⟨?_, letsD h2⟩
    unfold Oper.asks at h1 ⊢
    rw [Ks]; exact h1
theorem PZ : ∀ (rest : List Oper) (a : Act) (w : World), wpList P ops (QD D Q) rest a w → wpList P ops Q rest (more D a) w
  | [], _, _, h => h
  | o :: rest, a, w, h => by
    unfold wpList at h ⊢
    rw [show (more D a).tmps = a.tmps from rfl]
    split
    · rename_i hw
      rw [if_pos hw] at h
      exact opD (fun a w => PZ rest a w) h
    · rename_i hw
      rw [if_neg hw] at h
      rw [Yr]; exact PZ rest _ _ h
theorem opsD : ∀ (s : List Nat) (a : Act) (w : World), wpOps P ops (QD D Q) s a w → wpOps P ops Q s (more D a) w
  | [], _, _, h => h
  | i :: s, a, w, h => by
    unfold wpOps at h ⊢
    cases ho : ops[i]? with
    | none => simp only [ho] at h ⊢; exact opsD s a w h
    | some o =>
      simp only [ho] at h ⊢
      rw [show (more D a).tmps = a.tmps from rfl]
      split
      · rename_i hw
        rw [if_pos hw] at h
        exact opD (fun a w => opsD s a w) h
      · rename_i hw
        rw [if_neg hw] at h
        rw [Yr]; exact opsD s _ _ h
structure FrD (D : List Deferred) (n : Nat) (L : Env) (a : Act) : Prop where
  size : a.tmps.size = n
  defers : a.defers = D
  get : ∀ t v, QQ L t = some v → a.tmps[t]? = some v
theorem FrD.less {a : Act} (h : FrD D n L a) : ∃ a0, Fr n L a0 ∧ a = more D a0 := ⟨{ a with defers := [] }, ⟨h.size, rfl, h.get⟩, by obtain ⟨t, d⟩ := a; have := h.defers; simp at this; subst this; rfl⟩
theorem Fr.more {a : Act} (h : Fr n L a) : FrD D n L (more D a) := ⟨h.size, by show a.defers ++ D = D; rw [h.defers]; rfl, h.get⟩
theorem FrD.eval {a : Act} (h : FrD D n L a) {x : Operand} {v : Value} (hx : look L x = some v) : a.eval x = v := by
  obtain ⟨a0, h0, rfl⟩ := h.less
  rw [Ks]; exact h0.eval hx
theorem FrD.sub {L' : Env} {a : Act} (h : FrD D n L a) (hs : SubE L L') : FrD D n L' a := ⟨h.size, h.defers, fun t v ht => h.get t v (hs.get t v ht)⟩
@[irreducible] def wcD (D : List Deferred) (P : Program) (n : Nat) (c : Code) (Q : Exit → Act → World → Prop) (L : Env) (w : World) : Prop := ∀ a, FrD D n L a → c.wp P Q a w
@[irreducible] def qsD (D : List Deferred) (n : Nat) (Q : Exit → Act → World → Prop) (e : Exit) (L : Env) (w : World) : Prop := ∀ a, FrD D n L a → Q e a w
theorem Zn {e : Exit} (h : qsD D n Q e L w) : qs n (QD D Q) e L w := by unfold qsD at h; unfold qs; exact fun a ha => h _ ha.more
theorem Wh {c : Code} {L' : Env} (hs : SubE L L') (h : wcD D P n c Q L' w) : wcD D P n c Q L w := by unfold wcD at *; exact fun a ha => h a (ha.sub hs)
theorem XE {x y : Code} (h : wcD D P n x (Exit.then (y.wp P Q) Q) L w) : wcD D P n (.seq x y) Q L w := by unfold wcD at *; exact fun a ha => Go.wp_seq (h a ha)
theorem XA {id : Nat} {l : List Oper} (h : wl P n l.toArray (QD D Q) l L w) : wcD D P n (.region id l.toArray false) Q L w := by
  unfold wcD; unfold wl at h
  intro a ha
  obtain ⟨a0, h0, rfl⟩ := ha.less
  exact Go.wp_region_lit (PZ _ _ _ (h a0 h0))
theorem HU {id : Nat} {l : List Oper} (hm : P.follows .mixedOrders = true) (h : DrW P n l l (QD D Q) L w.drew) : wcD D P n (.region id l.toArray true) Q L w := by
  unfold wcD
  unfold DrW at h
  intro a ha
  obtain ⟨a0, h0, rfl⟩ := ha.less
  refine wp_region_draw fun t => ?_
  simp only [Region.schedule, hm, Bool.true_or, if_true]
  refine opsD _ _ _ (h (AlikeO.refl _) _ ?_ a0 h0)
  have := Tp l.toArray l.toArray.size t (Array.replicate l.length false) (by
    unfold Yl
    have := List.length_filter_le (fun i => !(Array.replicate l.length false).getD i false) (List.range l.toArray.size)
    simpa using this)
  simpa [Region.linearise] using this
theorem H5 (h : qsD D n Q .normal L w) : wcD D P n .skip Q L w := by unfold wcD; unfold qsD at h; exact fun a ha => Go.wp_skip (h a ha)
theorem Y5 (h : qsD D n Q .ret L w) : wcD D P n .ret Q L w := by unfold wcD; unfold qsD at h; exact fun a ha => Go.wp_ret (h a ha)
theorem Yh {c : Operand} {x y : Code} {t : Bool} (hc : look L c = some (.bool t)) (h1 : t = true → wcD D P n x Q L w) (h2 : t = false → wcD D P n y Q L w) : wcD D P n (.cond c x y) Q L w := by
  unfold wcD at *; exact fun a ha => Go.wp_cond_split (ha.eval hc) (fun e => h1 e a ha) (fun e => h2 e a ha)
theorem CI {c : Operand} {x y : Code} {p : Prop} {dp : Decidable p} (hc : look L c = some (.bool (@decide p dp))) (h1 : p → wcD D P n x Q L w) (h2 : ¬ p → wcD D P n y Q L w) : wcD D P n (.cond c x y) Q L w :=
  Yh hc (fun e => h1 (of_decide_eq_true e)) (fun e => h2 (of_decide_eq_false e))
theorem X6 {y : Code} (h : wcD D P n y Q L w) : qsD D n (Exit.then (y.wp P Q) Q) .normal L w := by unfold qsD; unfold wcD at h; exact fun a ha => h a ha
theorem Hm {K : Act → World → Prop} (h : qsD D n Q .ret L w) : qsD D n (Exit.then K Q) .ret L w := by unfold qsD at *; exact fun a ha => h a ha
theorem Kn {id : Nat} (h : qsD D n Q .normal L w) : qsD D n (Exit.inBlock id Q) .normal L w := by unfold qsD at *; exact fun a ha => h a ha
/-- 'defer f()', f a function value, at a region's end -/
theorem Vd {x : Operand} {f : Nat} {fs cap : Array Value} {ts : Array TypeId} (hx : look L x = some (.func (.func f) fs cap)) (h : qsD [{ target := .fn (.func f) cap, args := fs }] n Q .normal L w) : wl P n ops Q [⟨none, .defer ⟨.value x, #[], ts⟩, ty, pos, aft, none⟩] L w := by
  unfold wl; unfold qsD at h
  intro a ha
  unfold wpList
  rw [if_pos (by simp [Region.wanted])]
  refine .inl ?_
  unfold Oper.wp
  have hr : (execOp a.eval ⟨none, .defer ⟨.value x, #[], ts⟩, ty, pos, aft, none⟩).run P w = .ok (.defer { target := .fn (.func f) cap, args := fs }) w := by
    simp [execOp, resolve, ha.eval hx, Deferred.ofValue]
  rw [hr]
  exact h _ ⟨ha.size, by show _ :: a.defers = _; rw [ha.defers], ha.get⟩
/-! ### a function with deferred calls -/
theorem VH {f : FuncId} {fn : Func} {c : Code} {args : List Value} {R : Ending → World → Prop} (hf : P.funcs[f]? = some fn) (hb : fn.body = some c) (hn : fn.ntmps = n) (hl : Nat.ble args.length n = true)
    (h : wc P n c (bodyPostD P fn R) (KP 0 args) w) : Calls P f args.toArray w R := by
  have hle : args.length ≤ n := Nat.le_of_ble_eq_true hl
  unfold wc at h
  refine calls_of_wp_defers hf hb (h _ ⟨by simp [hn]; omega, rfl, fun t v ht => ?_⟩)
  obtain ⟨_, h2⟩ := Hc args 0 t v ht
  simp only [Nat.sub_zero] at h2
  have hlt := (List.getElem?_eq_some_iff.1 h2).1
  rw [Array.getElem?_append_left (by simpa using hlt)]
  simpa using h2
theorem De {f : FuncId} {fn : Func} {c : Code} {args : List Value} {R : Ending → World → Prop} {u : FrameMode} (hf : P.funcs[f]? = some fn) (hb : fn.body = some c) (hn : fn.ntmps = n) (hl : Nat.ble args.length n = true)
    (h : wc P n c (bodyPost P fn R) (KP 0 args) w) : CallsD P f args.toArray u w (fun e u' w' => u' = u ∧ R e w') := by
  have hle : args.length ≤ n := Nat.le_of_ble_eq_true hl
  unfold wc at h
  refine callsD_of_wp hf hb (h _ ⟨by simp [hn]; omega, rfl, fun t v ht => ?_⟩)
  obtain ⟨_, h2⟩ := Hc args 0 t v ht
  simp only [Nat.sub_zero] at h2
  have hlt := (List.getElem?_eq_some_iff.1 h2).1
  rw [Array.getElem?_append_left (by simpa using hlt)]
  simpa using h2
theorem finE_of {fn : Func} {R : Ending → World → Prop} {v : Value} {e : Exit} (he : e = .normal ∨ e = .ret) (hr : ∀ a, Fr n L a → (results fn a.tmps).run P w = .ok v w) (h : R (.returned v) w) : qs n (bodyPostD P fn R) e L w := by
  unfold qs
  intro a ha
  have hd := ha.defers
  rcases he with rfl | rfl
  · show Leaves P fn a.tmps R a.defers .returning w
    rw [hd]; exact ⟨v, hr a ha, h⟩
  · show Leaves P fn a.tmps R a.defers .returning w
    rw [hd]; exact ⟨v, hr a ha, h⟩
theorem finE2 {fn : Func} {R : Ending → World → Prop} {r r2 : ResultVar} {v v2 : Value} {e : Exit} (he : e = .normal ∨ e = .ret) (hf : fn.results = #[r, r2]) (hv : U4 P n L w r v) (hv2 : U4 P n L w r2 v2) (h : R (.returned (.tuple #[v, v2])) w) : qs n (bodyPostD P fn R) e L w :=
  finE_of he (fun a ha => by rw [UI, hf]; simp [hv a ha, hv2 a ha]) h
/-- one call was deferred: it is done, then the results are read -/
theorem Nw {fn : Func} {R : Ending → World → Prop} {R0 : Value → World → Prop} {e : Exit} {f : Nat} {cap : List Value} (he : e = .normal ∨ e = .ret) (hc : QM P f = true) (hcd : CallsD P f cap.toArray .returning w (fun e u' w' => u' = .returning ∧ Ret R0 e w'))
    (hk : ∀ v0 w', R0 v0 w' → ∃ v, (∀ a, Fr n L a → (results fn a.tmps).run P w' = .ok v w') ∧ R (.returned v) w') : qsD [{ target := .fn (.func f) cap.toArray, args := #[] }] n (bodyPostD P fn R) e L w := by
  unfold qsD
  intro a ha
  have hd := ha.defers
  have main : Leaves P fn a.tmps R a.defers .returning w := by
    rw [hd]
    refine leaves_cons (f := f) (args := cap.toArray) (by simp) ?_ ?_
    · have := Ut hc cap.toArray w
      simp only [invoke]
      simpa using this
    · refine CallsD.mono hcd ?_
      rintro e u' w' ⟨rfl, v0, rfl, h0⟩
      obtain ⟨v, h1, h2⟩ := hk v0 w' h0
      show Leaves P fn a.tmps R [] (settle .returning) w'
      exact ⟨v, h1 { tmps := a.tmps, defers := [] } ⟨ha.size, rfl, ha.get⟩, h2⟩
  rcases he with rfl | rfl <;> exact main
/-- the mark of a loop over a function: nothing was deferred in its rounds -/
theorem finM {fn : Func} {R : Ending → World → Prop} {e : Exit} {B : Nat} {v : Value} (he : e = .normal ∨ e = .ret) (hB : w.heap[B]? = some (.deferred (some []))) (hr : ∀ a, Fr n L a → (results fn a.tmps).run P (w.putObj B (.deferred none)) = .ok v (w.putObj B (.deferred none))) (h : R (.returned v) (w.putObj B (.deferred none))) :
    qsD [{ target := .collected B, args := #[] }] n (bodyPostM Fence.wide 0 P fn R) e L w := by
  unfold qsD
  intro a ha
  have main : LeavesInM Fence.wide 0 P fn a.tmps R a.defers .returning w := by
    rw [ha.defers]
    exact ⟨by simp, .inl ⟨B, _, rfl, run_takeDeferred hB, ⟨v, hr { tmps := a.tmps, defers := [] } ⟨ha.size, rfl, ha.get⟩, h⟩⟩⟩
  rcases he with rfl | rfl <;> exact main
theorem res2 {fn : Func} {t u : Nat} {v x : Value} (hf : fn.results = #[.tmp t, .tmp u]) (hv : QQ L t = some v) (hx : QQ L u = some x) (a : Act) (ha : Fr n L a) : (results fn a.tmps).run P w = .ok (.tuple #[v, x]) w := by
  have := ha.get t v hv; have := ha.get u x hx; simp [results, hf, *]
/-! ### a round -/
@[irreducible] def wcI (l : Nat) (P : Program) (n : Nat) (c : Code) (Q : Exit → Act → World → Prop) (L : Env) (w : World) : Prop := ∀ a, Fr n L a → c.wpIn (RF l) 0 P Q a w
theorem BB {c : Code} {L' : Env} (hs : SubE L L') (h : wcI l P n c Q L' w) : wcI l P n c Q L w := by unfold wcI at *; exact fun a ha => h a (ha.sub hs)
theorem Ra {x y : Code} (h : wcI l P n x (Exit.then (y.wpIn (RF l) 0 P Q) Q) L w) : wcI l P n (.seq x y) Q L w := by unfold wcI at *; exact fun a ha => Go.wpIn_seq (h a ha)
def noDef (o : Oper) : Bool := match o.op with | .defer _ => false | _ => true
theorem WU {id : Nat} {os : List Oper} (hQ : ¬ LetsOut Q) (hd : os.all noDef = true) (h : wl P n os.toArray Q os L w) : wcI l P n (.region id os.toArray false) Q L w := by
  unfold wcI; unfold wl at h
  exact fun a ha => Go.wpIn_region_lit (Wr hQ _ _ _ (fun o ho c e => by have := List.all_eq_true.1 hd o ho; unfold noDef at this; rw [e] at this; cases this) (h a ha))
theorem CH {id : Nat} {c : Code} (h : wcI l P n c (Exit.inBlock id Q) L w) : wcI l P n (.block id c) Q L w := by unfold wcI at *; exact fun a ha => Go.wpIn_block (h a ha)
theorem Pa {c : Operand} {x y : Code} {t : Bool} (hc : look L c = some (.bool t)) (h1 : t = true → wcI l P n x Q L w) (h2 : t = false → wcI l P n y Q L w) : wcI l P n (.cond c x y) Q L w := by
  unfold wcI at *; exact fun a ha => Go.wpIn_cond_split (ha.eval hc) (fun e => h1 e a ha) (fun e => h2 e a ha)
theorem Rg {y : Code} (h : wcI l P n y Q L w) : qs n (Exit.then (y.wpIn (RF l) 0 P Q) Q) .normal L w := by unfold qs; unfold wcI at h; exact fun a ha => h a ha
theorem YP {id : Nat} (h : qs n Q .normal L w) : qs n (Exit.inBlock id Q) .normal L w := Qp h
theorem qsD_app {e : Exit} {a : Act} (hd : a.defers = D) (hs : a.tmps.size = n) (hg : ∀ t v, QQ L t = some v → a.tmps[t]? = some v) (h : qsD D n Q e L w) : Q e a w := by unfold qsD at h; exact h a ⟨hs, hd, hg⟩
theorem UB {rest : List Oper} {d : Nat} {x y z : Operand} {u v v2 : Value} {ts : Array TypeId} {R : World → Prop} (hx : look L x = some (.func (.yield l) #[] #[])) (hy : look L y = some v) (hz : look L z = some v2) (hd : Nat.blt d n = true)
    (hY : YieldAt Fence.wide 0 P l #[v, v2] w (fun e w' => e = .returned u ∧ R w')) (hk : ∀ w', R w' → wlI P n ops Q rest ((d, u) :: L) w') : wlI P n ops Q (⟨some d, .call ⟨.value x, #[y, z], ts⟩, ty, pos, aft, none⟩ :: rest) L w := by
  obtain ⟨fn, tmps, assign, body, h1, h2⟩ := hY
  unfold wlI at *
  intro a ha
  unfold wpListIn
  rw [if_pos (by simp [Region.wanted])]
  refine ⟨fun _ _ => trivial, ?_⟩
  have h3 : (execOp a.eval ⟨some d, .call ⟨.value x, #[y, z], ts⟩, ty, pos, aft, none⟩).run P w = .ok (.round l fn tmps assign body) w := by
    simp only [execOp, resolve, ha.eval hx, Deferred.ofValue, invoke]
    simp [ha.eval hy, ha.eval hz, h1]
  show Oper.uponIn _ _ _ _ _ _ _ ((Oper.semAt none a.eval _).run P w)
  rw [Oper.semAt_none, h3]
  refine ⟨fun q => by simp [Fence.wide] at q, h2.mono fun e w' ⟨he, hR⟩ => ?_⟩
  subst he
  exact hk w' hR _ (ha.put (some d) u hd)
/-- a round, out of the walks of its assignment and of its body -/
theorem yieldG {t1 t2 : Nat} {x1 x2 : Value} {rec : Loop} {assign body : Code} {L0 : Env} {R : World → Prop}
    (hrec : w.heap[l]? = some (.loop rec)) (hst : rec.state = .ready) (hpd : rec.pending = none) (hps : rec.params = #[t1, t2]) (has : rec.assign = assign) (hbo : rec.body = body) (htn : rec.tmps.size = n)
    (hfr : ∀ t v, QQ L0 t = some v → rec.tmps[t]? = some v) (ht1 : Nat.blt t1 n = true) (ht2 : Nat.blt t2 n = true)
    (h : wcI l P n assign (Exit.then (fun a₁ w₁ => ∃ w₂, (Instr.beginRound l).run P w₁ = .ok () w₂ ∧ body.wpIn (RF l) 0 P (roundPost P l fun e w' => e = .returned (.bool true) ∧ R w') a₁ w₂) (fun _ _ _ => False)) ((t2, x2) :: (t1, x1) :: L0) w) :
    YieldAt Fence.wide 0 P l #[x1, x2] w (fun e w' => e = .returned (.bool true) ∧ R w') := by
  subst has hbo
  unfold wcI at h
  refine ⟨rec.fn, (rec.tmps.setIfInBounds t1 x1).setIfInBounds t2 x2, rec.assign, rec.body, ?_, roundIn_of_wpIn trivial ?_⟩
  · have := run_yield (P := P) (args := #[x1, x2]) hrec (by simp [hps])
    simpa [hps] using this
  · have ha0 : Fr n L0 { tmps := rec.tmps, defers := [] } := ⟨htn, rfl, hfr⟩
    exact h _ ((ha0.put (some t1) x1 ht1).put (some t2) x2 ht2)
theorem CY {rec : Loop} {body : Code} {R : World → Prop} {Q2 : Exit → Act → World → Prop} (hrec : w.heap[l]? = some (.loop rec)) (hst : rec.state = .ready) (h : wcI l P n body (roundPost P l fun e w' => e = .returned (.bool true) ∧ R w') L (w.putObj l (.loop { rec with state := .busy }))) :
    qs n (Exit.then (fun a₁ w₁ => ∃ w₂, (Instr.beginRound l).run P w₁ = .ok () w₂ ∧ body.wpIn (RF l) 0 P (roundPost P l fun e w' => e = .returned (.bool true) ∧ R w') a₁ w₂) Q2) .normal L w := by
  unfold wcI at h; unfold qs
  exact fun a ha => ⟨_, run_beginRound hrec hst, h a ha⟩
theorem TP {rec : Loop} {R : World → Prop} (hrec : w.heap[l]? = some (.loop { rec with state := .busy })) (hst : rec.state = .ready) (hpd : rec.pending = none) (hR : R (w.putObj l (.loop rec))) : qs n (roundPost P l fun e w' => e = .returned (.bool true) ∧ R w') .normal L w := by
  unfold qs
  intro a _
  refine ⟨_, _, run_endRound none hrec, rfl, ?_⟩
  have e : ({ { rec with state := .busy } with state := if (none : Option Code).isNone then .ready else .done, pending := none } : Loop) = rec := by
    cases rec; simp at hst hpd; subst hst hpd; rfl
  rw [e]; exact hR
end
end Go.Proofs.YtkcjfoaejijdoaaGreatDoor.M
/- compress: equal, pieces -/
namespace Go.Proofs.YtkcjfoaejijdoaaGreatDoor
open Go.RowKit M
set_option linter.unusedVariables false
/-- how many of the first bytes are equal -/
def US : Bs → Nat
  | [] => 0
  | x :: l => 1 + (l.takeWhile (fun y => decide (y = x))).length
def lit : Bs → Nat
  | [] => 0
  | x :: l => if US (x :: l) < 3 then 1 + lit l else 0
def Wt (l : Bs) : Nat := if 3 ≤ US l then US l else US l + lit (l.drop (US l))
theorem Sx (l : Bs) : US l ≤ l.length := by
  cases l with
  | nil => simp [US]
  | cons x l => have := (List.takeWhile_sublist (l := l) (fun y => decide (y = x))).length_le; simp [US]; omega
theorem Ci {l : Bs} (h : l ≠ []) : 1 ≤ US l := by
  cases l with
  | nil => exact absurd rfl h
  | cons x l => simp [US]
theorem PY : ∀ l : Bs, lit l ≤ l.length
  | [] => by simp [lit]
  | x :: l => by
    have := PY l
    unfold lit
    split
    · simp; omega
    · simp
theorem Nh (l : Bs) : Wt l ≤ l.length := by
  unfold Wt
  have := Sx l
  have := PY (l.drop (US l))
  rw [List.length_drop] at this
  split <;> omega
theorem UJ {l : Bs} (h : l ≠ []) : 1 ≤ Wt l := by
  unfold Wt
  have := Ci h
  split <;> omega
theorem U3 {x : UInt8} : ∀ {l : Bs} {n : Nat}, n ≤ l.length → (∀ j, j < n → l[j]? = some x) → (n = l.length ∨ ∃ y, l[n]? = some y ∧ y ≠ x) → (l.takeWhile (fun y => decide (y = x))).length = n
  | [], n, h, _, _ => by simp at h; subst h; rfl
  | y :: l, 0, _, _, h => by
    rcases h with h | ⟨z, h1, h2⟩
    · simp at h
    · simp at h1; subst h1; simp [h2]
  | y :: l, n + 1, h, h1, h2 => by
    have := h1 0 (by omega)
    simp at this; subst this
    have := U3 (x := y) (l := l) (n := n) (by simpa using h) (fun j hj => by simpa using h1 (j + 1) (by omega)) (by simpa using h2)
    simp [this]
theorem Sy {s : Bs} {k n : Nat} {x : UInt8} (h0 : s[k]? = some x) (hn : 1 ≤ n) (hle : k + n ≤ s.length) (he : ∀ j, j < n → s[k + j]? = some x) (hend : k + n = s.length ∨ ∃ y, s[k + n]? = some y ∧ y ≠ x) : US (s.drop k) = n := by
  have hk : k < s.length := (List.getElem?_eq_some_iff.1 h0).1
  have hx : s[k] = x := (List.getElem?_eq_some_iff.1 h0).2
  rw [List.drop_eq_getElem_cons hk, hx]
  rw [US, U3 (n := n - 1)]
  · omega
  · rw [List.length_drop]; omega
  · intro j hj; rw [List.getElem?_drop]; have := he (j + 1) (by omega); rw [show k + 1 + j = k + (j + 1) by omega]; exact this
  · rcases hend with h | ⟨y, h1, h2⟩
    · left; rw [List.length_drop]; omega
    · right; refine ⟨y, ?_, h2⟩; rw [List.getElem?_drop, show k + 1 + (n - 1) = k + n by omega]; exact h1
theorem Pc {x : UInt8} : ∀ (l : Bs) (j : Nat), j < (l.takeWhile (fun y => decide (y = x))).length → l[j]? = some x
  | [], j, h => by simp at h
  | y :: l, j, h => by
    by_cases hy : y = x
    · subst hy
      cases j with
      | zero => rfl
      | succ j => rw [List.getElem?_cons_succ]; refine Pc l j ?_; simp at h; simpa using h
    · simp [hy] at h
theorem eqN_all {l : Bs} {j : Nat} (h : j < US l) : l[j]? = l[0]? := by
  cases l with
  | nil => simp
  | cons x l =>
    cases j with
    | zero => rfl
    | succ j =>
      simp [US] at h
      have hj : j < (l.takeWhile (fun y => decide (y = x))).length := by omega
      rw [List.getElem?_cons_succ, List.getElem?_cons_zero]
      exact Pc l j hj
theorem PX {s : Bs} {k : Nat} {x : UInt8} (h0 : s[k]? = some x) (h : US (s.drop k) < 3) : lit (s.drop k) = 1 + lit (s.drop (k + 1)) := by
  obtain ⟨hk, hx⟩ := List.getElem?_eq_some_iff.1 h0
  rw [List.drop_eq_getElem_cons hk] at h ⊢
  rw [lit, if_pos h]
theorem PW {l : Bs} (h : l = [] ∨ 3 ≤ US l) : lit l = 0 := by
  cases l with
  | nil => rfl
  | cons x l =>
    rcases h with h | h
    · cases h
    · rw [lit, if_neg (by omega)]
def DX : Nat → Bs → List (Bs × Bool)
  | 0, _ => []
  | f + 1, l => if l = [] then [] else (l.take (Wt l), decide (3 ≤ US l)) :: DX f (l.drop (Wt l))
theorem Bo : ∀ (f g : Nat) (l : Bs), l.length ≤ f → l.length ≤ g → DX f l = DX g l
  | 0, g, l, h, _ => by
    have hl : l = [] := List.length_eq_zero_iff.1 (by omega)
    subst hl
    cases g with
    | zero => rfl
    | succ g => simp [DX]
  | f + 1, 0, l, _, h => by
    have hl : l = [] := List.length_eq_zero_iff.1 (by omega)
    subst hl
    simp [DX]
  | f + 1, g + 1, l, h1, h2 => by
    unfold DX
    split
    · rfl
    · rename_i hl
      have := UJ hl
      rw [Bo f g _ (by rw [List.length_drop]; omega) (by rw [List.length_drop]; omega)]
def KT (l : Bs) : List (Bs × Bool) := DX l.length l
theorem BN : KT [] = [] := rfl
theorem Vm {l : Bs} (h : l ≠ []) : KT l = (l.take (Wt l), decide (3 ≤ US l)) :: KT (l.drop (Wt l)) := by
  unfold KT
  have hp := UJ h
  have hl : 1 ≤ l.length := by cases l with | nil => exact absurd rfl h | cons => simp
  obtain ⟨m, hm⟩ : ∃ m, l.length = m + 1 := ⟨l.length - 1, by omega⟩
  rw [hm, DX, if_neg h, Bo m (l.drop (Wt l)).length _ (by rw [List.length_drop]; omega) (Nat.le_refl _)]
def Gj (x : Bs × Bool) : Bs := if x.2 = true then [UInt8.ofNat (128 + x.1.length), x.1.headD 0] else UInt8.ofNat x.1.length :: x.1
def Zc (l : List (Bs × Bool)) : Bs := l.flatMap Gj
def YR (p : Bs) : Option Bs := if (Zc (KT p)).length ≤ 47 then some (Zc (KT p)) else none
/-- a piece of a page -/
def okP (x : Bs × Bool) : Prop := 1 ≤ x.1.length ∧ x.1.length ≤ 64 ∧ (x.2 = true → ∀ j, j < x.1.length → x.1[j]? = x.1[0]?)
theorem PG : ∀ (n : Nat) (l : Bs), l.length ≤ n → n ≤ 64 → (∀ x ∈ KT l, okP x) ∧ (KT l).flatMap (·.1) = l
  | 0, l, h, _ => by
    have hl : l = [] := List.length_eq_zero_iff.1 (by omega)
    subst hl; simp [BN]
  | n + 1, l, h, h64 => by
    by_cases hl : l = []
    · subst hl; simp [BN]
    · have hp := UJ hl
      have hle := Nh l
      obtain ⟨h1, h2⟩ := PG n (l.drop (Wt l)) (by rw [List.length_drop]; omega) (by omega)
      rw [Vm hl]
      refine ⟨?_, ?_⟩
      · intro x hx
        rcases List.mem_cons.1 hx with rfl | hx
        · refine ⟨by simp; omega, by simp; omega, ?_⟩
          intro hd j hj
          simp only [decide_eq_true_eq] at hd
          have hpn : Wt l = US l := by unfold Wt; rw [if_pos hd]
          simp only [List.length_take] at hj
          simp only [List.getElem?_take]
          rw [if_pos (by omega), if_pos (by omega)]
          exact eqN_all (by omega)
        · exact h1 x hx
      · rw [List.flatMap_cons, h2]; exact List.take_append_drop _ _
theorem Sz (x : Bs × Bool) : 1 ≤ (Gj x).length := by unfold Gj; split <;> simp
theorem S3 {x : Bs × Bool} (h : okP x) : (Gj x).length ≤ 65 := by
  obtain ⟨_, h2, _⟩ := h
  unfold Gj; split <;> simp; omega
theorem Yx (a b : List (Bs × Bool)) : Zc (a ++ b) = Zc a ++ Zc b := List.flatMap_append
theorem Gi : ∀ {l : List (Bs × Bool)}, (∀ x ∈ l, okP x) → (Zc l).length ≤ 65 * l.length
  | [], _ => by simp [Zc]
  | x :: l, h => by
    have h1 := S3 (h x (by simp))
    have h2 := Gi (l := l) (fun y hy => h y (by simp [hy]))
    unfold Zc at h2 ⊢
    rw [List.flatMap_cons, List.length_append, List.length_cons]; omega
theorem RN {p f : Bs} (h : YR p = some f) : f.length ≤ 47 ∧ f = Zc (KT p) := by
  unfold YR at h
  split at h
  · rename_i h1; cases h; exact ⟨h1, rfl⟩
  · cases h
theorem run_eq {s : Bs} (h : ∀ j, j < s.length → s[j]? = s[0]?) (h1 : 1 ≤ s.length) : s = List.replicate s.length (s.headD 0) := by
  apply List.ext_getElem?
  intro j
  by_cases hj : j < s.length
  · rw [h j hj, List.getElem?_replicate, if_pos hj]
    cases s with
    | nil => simp at h1
    | cons x s => rfl
  · rw [List.getElem?_eq_none (by omega), List.getElem?_eq_none (by simp; omega)]
theorem TR : ∀ (l : List (Bs × Bool)), (∀ x ∈ l, okP x) → l.length ≤ (l.flatMap (·.1)).length
  | [], _ => by simp
  | x :: l, h => by
    have h1 := TR l (fun y hy => h y (List.mem_cons_of_mem _ hy))
    have h2 := (h x (by simp)).1
    rw [List.flatMap_cons, List.length_append, List.length_cons]; omega
theorem Bn {p : Bs} (hp : p.length ≤ 64) : (∀ x ∈ KT p, okP x) ∧ (KT p).flatMap (·.1) = p ∧ (KT p).length ≤ 64 := by
  obtain ⟨h1, h2⟩ := PG p.length p (Nat.le_refl _) hp
  have := TR _ h1
  rw [h2] at this
  exact ⟨h1, h2, by omega⟩
def bldZ (b : Nat) (bs : Bs) : Th := Tt fun q : Value × Value => starL [WF 205 b [q.1, q.2], VN 5 q.2 bs]
theorem bldZ_of {w : World} {b : Nat} {bs : Bs} {As : List Th} (h : Sat w (U0 b bs :: As)) : Sat w (bldZ b bs :: As) := by
  obtain ⟨p, v, _, h1⟩ := Hb h
  have h2 := (h1.pull 1 rfl).bufZ_of; dsimp only [List.eraseIdx] at h2
  exact Sat.ex_intro (f := fun q : Value × Value => starL [WF 205 b [q.1, q.2], VN 5 q.2 bs]) (p, v) (Sat.fold (As := [WF 205 b [p, v], VN 5 v bs]) (h2.perm (List.Perm.swap _ _ _)))
theorem bl_len {w : World} {b : Nat} {bs : Bs} {F : Th} (hS : Sat w [U0 b bs, F]) :
    Calls Tryz.prog 178 #[ptrV b 0] w (Ret fun v w' => v = intV (bs.length : Int) ∧ Sat w' [U0 b bs, F]) := by
 obtain ⟨p, v, hp, hS⟩ := Hb hS
 obtain ⟨ao, cap, rfl, h1v, hq⟩ := hS.bufv 1 rfl
 refine Qt Tryz.func178 rfl Tryz.ntmps178 rfl ?_
 refine Qd (Qa (Qe rfl rfl (Qf (Qc (Qd (Qa (Qb rfl rfl (Qj rfl rfl ?_))))))))
 refine Qg rfl Jm rfl ?_
 refine Qu rfl Hx (hS.tcell 0 rfl (o := 1) rfl) rfl ?_
 refine XU Tryz.underlying143 rfl rfl ?_
 refine Qe rfl rfl (Qf (Qc (Q0 ?_)))
 refine QV (.inr rfl) rfl rfl ?_
 exact ⟨_, rfl, rfl, Ha hp hS⟩
theorem Gx {w : World} {b : Nat} {bs : Bs} {F : Th} (hS : Sat w [bldZ b bs, F]) (hl : bs.length ≤ 70368744177663) :
    Calls Tryz.prog 142 #[ptrV b 0] w (Ret fun v w' => v = strV bs ∧ Sat w' [bldZ b bs, F]) := by
 obtain ⟨⟨p, v⟩, hS⟩ := hS.ex
 replace hS := hS.flat; dsimp only [Q8, Q7] at hS
 obtain ⟨ao, cap, rfl, h1v, hao⟩ := hS.bufZv 1 rfl
 refine Qt Tryz.func142 rfl Tryz.ntmps142 rfl ?_
 refine Qd (Qa (Qe rfl rfl (Qf (Qc (Qd ?_)))))
 have hS1 := hS.drew
 refine QK [0, 1, 2, 3, 5, 6, 7, 8, 9, 4, 10, 11] [4, 10] ZT (by kernel_rfl) ?_
 refine Qk rfl rfl rfl (fun _ => (Qr rfl)) ?_
 refine Qk rfl rfl rfl (fun _ => (Qq rfl)) ?_
 refine Qk rfl rfl rfl (fun _ => (Qi rfl Jm)) ?_
 refine QF rfl rfl rfl (Qm rfl Hx (hS1.tcell 0 rfl (o := 1) rfl)) ?_
 refine Qk rfl rfl rfl (fun _ => (Qr rfl)) ?_
 refine Qk rfl rfl rfl (fun _ => (Qq rfl)) ?_
 refine Qk rfl rfl rfl (fun _ => (Qi rfl Jm)) ?_
 refine QF rfl rfl rfl (Qm rfl Hx (hS1.tcell 0 rfl (o := 1) rfl)) ?_
 refine Qk rfl rfl rfl (fun _ => (Uq Tryz.underlying143 rfl)) ?_
 refine Xn rfl rfl rfl rfl rfl rfl ?_
 refine Va rfl hao rfl ?_
 refine XJ (.cons (.inl ⟨rfl, (Qm rfl Hx (hS1.tcell 0 rfl (o := 1) rfl))⟩) (.skip (by kernel_rfl) .nil)) ?_
 refine Xn rfl rfl rfl rfl rfl rfl ?_
 refine Kc 1 hS1 rfl rfl rfl Tryz.underlying230 C4 (by omega) rfl ?_
 intro w2 hS2
 clear hS1
 refine XJ (.skip (by kernel_rfl) (.skip (by kernel_rfl) .nil)) ?_
 refine Qk rfl rfl rfl (fun _ => (Q6 rfl)) ?_
 refine VC.nil (Qc ?_)
 refine Qh (L' := [(2, _)]) (Hd rfl) ?_
 refine Q0 ?_
 refine QV (.inr rfl) rfl rfl ?_
 exact ⟨_, rfl, rfl, Sat.ex_intro (f := fun q : Value × Value => starL [WF 205 b [q.1, q.2], VN 5 q.2 bs]) (p, .slice ao bs.length cap) (Sat.fold (As := [WF 205 b [p, _], VN 5 _ bs]) hS2)⟩
set_option maxRecDepth 100000 in
theorem B1 {w : World} {F : Th} (hS : Sat w [F]) (s : Bs) (k : Nat) (hk : k < s.length) (hl : s.length ≤ 1000) :
    Calls Tryz.prog 216 #[strV s, intV (k : Int)] w (Ret fun v w' => v = intV (US (s.drop k) : Nat) ∧ Sat w' [F]) := by
 obtain ⟨x, h0⟩ : ∃ x, s[k]? = some x := ⟨_, List.getElem?_eq_getElem hk⟩
 refine Qt Tryz.func216 rfl Tryz.ntmps216 rfl ?_
 refine Qd (Qa (Qe rfl rfl (Qf (Qc (Qd (Qa (Qe rfl rfl (Qf (Qc (Qd (Q1 ?_)))))))))))
 refine Xw (fun K0 E0 W0 => ∃ (n : Nat), K0 = s.length - k - n ∧ E0 = [(0, strV s), (1, intV (k : Int)), (5, intV (n : Int))] ∧ Sat W0 [F] ∧ (1 ≤ n) ∧ (k + n ≤ s.length) ∧ (∀ j, j < n → s[k + j]? = some x)) (L0 := [(0, _), (1, _), (5, _)]) (s.length - k - 1) (Y2 rfl rfl rfl) ⟨1, rfl, rfl, hS, Nat.le_refl _, by omega, fun j hj => by rw [show k + j = k by omega]; exact h0⟩ ?_
 rintro _ _ w1 ⟨n, rfl, rfl, hS1, hn, hle, he⟩
 refine Qd (Qd ?_)
 have hS2 := hS1.drew
 refine QK [0, 1, 2, 3, 4, 5, 6, 7, 8, 9, 10, 11, 12, 13, 14, 15, 16] [] ZT (by kernel_rfl) ?_
 refine Qk rfl rfl rfl (fun _ => (Qr rfl)) ?_
 refine Qk rfl rfl rfl (fun _ => (Qr rfl)) ?_
 refine Qk rfl rfl rfl (fun _ => (Kx rfl rfl (by omega) (by omega))) ?_
 refine Qk rfl rfl rfl (fun _ => (Qr rfl)) ?_
 refine Qk rfl rfl rfl (fun _ => (Ro Tryz.underlying9 rfl)) ?_
 refine Qk rfl rfl rfl (fun _ => (BX rfl rfl)) ?_
 refine Qk rfl rfl rfl (fun _ => (Qr rfl)) ?_
 refine YL 12 rfl (fun h3 => ?_) (fun h3 => ?_)
 ·obtain ⟨y, hy⟩ : ∃ y, s[k + n]? = some y := ⟨_, List.getElem?_eq_getElem (by omega)⟩
  refine Qk rfl rfl (Xy rfl rfl (decide_eq_true h3)) (fun _ => (Ev.gd (Qr rfl))) ?_
  refine Qk rfl rfl (Xy rfl rfl (decide_eq_true h3)) (fun _ => (Ev.gd (Qr rfl))) ?_
  refine Qk rfl rfl (Xy rfl rfl (decide_eq_true h3)) (fun _ => (Ev.gd (Qr rfl))) ?_
  refine Qk rfl rfl (Xy rfl rfl (decide_eq_true h3)) (fun _ => (Ev.gd (Kx rfl rfl (by omega) (by omega)))) ?_
  refine QF rfl rfl (Xy rfl rfl (decide_eq_true h3)) (Ev.gd (YX (k + n) Tryz.underlying9 rfl rfl (by omega) hy)) ?_
  refine Qk rfl rfl (Xy rfl rfl (decide_eq_true h3)) (fun _ => (Ev.gd (Qr rfl))) ?_
  refine Qk rfl rfl (Xy rfl rfl (decide_eq_true h3)) (fun _ => (Ev.gd (Qr rfl))) ?_
  refine QF rfl rfl (Xy rfl rfl (decide_eq_true h3)) (Ev.gd (YX k Tryz.underlying9 rfl rfl rfl h0)) ?_
  refine Qk rfl rfl (Xy rfl rfl (decide_eq_true h3)) (fun _ => (Ev.gd (Gh rfl rfl))) ?_
  refine Qk rfl rfl rfl (fun _ => (HI rfl (decide_eq_true h3) rfl)) ?_
  refine VC.nil (Qc ?_)
  refine Qh (L' := [(22, _), (0, _), (1, _), (5, _)]) (Jr rfl rfl rfl rfl) ?_
  refine Qx rfl (fun h4 => ?_) (fun h4 => ?_)
  ·have hyx : y = x := UInt8.toNat_inj.1 (by have := h4; omega)
   refine Qy (Qc (Q1 (Qa (Qb rfl rfl ?_))))
   refine QN rfl rfl (by omega) (by omega) rfl ?_
   refine Qe rfl rfl (Qf (Qp ?_))
   exact QG (L1 := [(0, _), (1, _), (5, intV ((n + 1 : Nat) : Int))]) (Y2 rfl rfl rfl) (k1 := s.length - k - (n + 1)) (by omega) ⟨n + 1, rfl, rfl, hS2.pick [0] rfl, by omega, by omega, fun j hj => by by_cases e : j = n; (subst e; rw [hy, hyx]); exact he j (by omega)⟩
  have hyx : y ≠ x := fun q => h4 (by rw [q])
  refine QZ (Qv (Qv (Q4 (Qc (Qd (Qa (Qb rfl rfl (Qe rfl rfl (Qf (Qc (Q0 ?_)))))))))))
  refine QV (.inr rfl) rfl rfl ?_
  exact ⟨_, rfl, by rw [Sy h0 hn hle he (.inr ⟨y, hy, hyx⟩)], hS2.pick [0] rfl⟩
 refine Xi rfl rfl (Xv rfl rfl (decide_eq_false h3)) ?_
 refine Xi rfl rfl (Xv rfl rfl (decide_eq_false h3)) ?_
 refine Xi rfl rfl (Xv rfl rfl (decide_eq_false h3)) ?_
 refine Xi rfl rfl (Xv rfl rfl (decide_eq_false h3)) ?_
 refine Xi rfl rfl (Xv rfl rfl (decide_eq_false h3)) ?_
 refine Xi rfl rfl (Xv rfl rfl (decide_eq_false h3)) ?_
 refine Xi rfl rfl (Xv rfl rfl (decide_eq_false h3)) ?_
 refine Xi rfl rfl (Xv rfl rfl (decide_eq_false h3)) ?_
 refine Xi rfl rfl (Xv rfl rfl (decide_eq_false h3)) ?_
 refine Qk rfl rfl rfl (fun _ => (YW rfl (decide_eq_false h3) rfl)) ?_
 refine VC.nil (Qc ?_)
 refine Qh (L' := [(22, _), (0, _), (1, _), (5, _)]) (Jr rfl rfl rfl rfl) ?_
 refine Xm rfl ?_
 refine QZ (Qv (Qv (Q4 (Qc (Qd (Qa (Qb rfl rfl (Qe rfl rfl (Qf (Qc (Q0 ?_)))))))))))
 refine QV (.inr rfl) rfl rfl ?_
 exact ⟨_, rfl, by rw [Sy h0 hn hle he (.inl (by omega))], hS2.pick [0] rfl⟩
def okPc (p : Bs) (ks : List (Bs × Bool)) (k : Bs × Bool) : Prop := ∃ rest, KT p = ks ++ k :: rest
def YieldsP (P : Program) (l : Nat) (ok : List (Bs × Bool) → Bs × Bool → Prop) (J : List (Bs × Bool) → Th) : Prop :=
  ∀ (ks : List (Bs × Bool)) (k : Bs × Bool) (R : Th) (w : World), ok ks k → Sat w [J ks, R] → YieldAt Fence.wide 0 P l #[strV k.1, .bool k.2] w (fun e w' => e = .returned (.bool true) ∧ Sat w' [J (ks ++ [k]), R])
theorem Mc {s : Bs} {k : Nat} (h : k = s.length ∨ 3 ≤ US (s.drop k)) : lit (s.drop k) = 0 := PW (by rcases h with h | h; exact .inl (by rw [h, List.drop_length]); exact .inr h)
set_option maxRecDepth 100000 in
theorem pcs_it {w : World} {l c : Nat} {page : Bs} {J : List (Bs × Bool) → Th} {F : Th} (hpl : page.length ≤ 1000) (hS : Sat w [J [], QO c [strV page], F]) (hY : YieldsP Tryz.prog l (okPc page) J) :
    Calls Tryz.prog 215 #[.func (.yield l) #[] #[], ptrV c 0] w (Ret fun v w' => Sat w' [J (KT page), QO c [strV page], F]) := by
 refine Qt Tryz.func215 rfl Tryz.ntmps215 rfl ?_
 refine Qd (Qa (Qe rfl rfl (Qf (Qc (Q1 ?_)))))
 refine Xw (fun K0 E0 W0 => ∃ (ks : List (Bs × Bool)) (a : Nat), K0 = page.length - a ∧ E0 = [(0, .func (.yield l) #[] #[]), (1, ptrV c 0), (3, intV (a : Int))] ∧ Sat W0 [J ks, QO c [strV page], F] ∧ (KT page = ks ++ KT (page.drop a)) ∧ (a ≤ page.length)) (L0 := [(0, _), (1, _), (3, _)]) (page.length - 0) (Y2 rfl rfl rfl) ⟨[], 0, rfl, rfl, hS, by simp, by omega⟩ ?_
 rintro _ _ w1 ⟨ks, a, rfl, rfl, hS1, hks, hal⟩
 refine Qd (Qd (Qa (Qb rfl rfl ?_)))
 refine Qu rfl Yz (by exact hS1.cell 1 rfl rfl) rfl ?_
 refine Wg Tryz.underlying9 rfl rfl ?_
 refine Xt rfl rfl rfl ?_
 refine Qf (Qc ?_)
 refine Qx rfl (fun h2 => ?_) (fun h2 => ?_)
 ·have he1 := Ci (l := page.drop a) (fun q => by have := congrArg List.length q; rw [List.length_drop] at this; simp at this; omega)
  have he2 : a + US (page.drop a) ≤ page.length := by have := Sx (page.drop a); rw [List.length_drop] at this; omega
  refine Qy (Qc (Q1 (Qd (Qa ?_))))
  refine Qu rfl Yz (by exact hS1.cell 1 rfl rfl) rfl ?_
  refine Qb rfl rfl ?_
  have hC3 := hS1.split [] [false, false, false] rfl; dsimp only [QC, Qz, Q9, Q8, Q7] at hC3
  refine Qo Cn rfl (B1 hC3 page (a) (by omega) hpl) rfl ?_
  rintro e w3 ⟨_, rfl, rfl, hS3⟩; refine ⟨_, rfl, ?_⟩
  replace hS3 := hS3.join rfl; dsimp only [QU, QT, Q8, Q7] at hS3; clear hC3
  clear hS1
  refine Qe rfl rfl (Qe rfl rfl (Qf (Qc ?_)))
  refine Qh (L' := [(5, _), (4, _), (0, _), (1, _), (3, _)]) (ZH rfl rfl rfl rfl rfl) ?_
  refine Qd (Qd (Qa (Qb rfl rfl ?_)))
  refine Xt rfl rfl rfl ?_
  refine Qf (Qc ?_)
  refine Qx rfl (fun h4 => ?_) (fun h4 => ?_)
  ·refine Qd (Qa (Qe rfl rfl (Qf (Qc (Q1 ?_)))))
   refine Xw (fun K0 E0 W0 => ∃ (m : Nat), K0 = page.length - a - m ∧ E0 = [(0, .func (.yield l) #[] #[]), (1, ptrV c 0), (3, intV (a : Int)), (4, intV (m : Int)), (5, .bool false)] ∧ Sat W0 [J ks, QO c [strV page], F] ∧ (1 ≤ m) ∧ (a + m ≤ page.length) ∧ (US (page.drop a) + lit (page.drop (a + US (page.drop a))) = m + lit (page.drop (a + m)))) (L0 := [(0, _), (1, _), (3, _), (4, _), (5, _)]) (page.length - a - US (page.drop a)) (ZH rfl rfl rfl rfl rfl) ⟨US (page.drop a), rfl, rfl, hS3, he1, he2, rfl⟩ ?_
   rintro _ _ w5 ⟨m, rfl, rfl, hS5, hm1, hm2, hm3⟩
   refine Qd (Qd (Qa (Qb rfl rfl (Qb rfl rfl ?_))))
   refine QN rfl rfl (by omega) (by omega) rfl ?_
   refine Qu rfl Yz (by exact hS5.cell 1 rfl rfl) rfl ?_
   refine Wg Tryz.underlying9 rfl rfl ?_
   refine Xt rfl rfl rfl ?_
   refine Qb rfl rfl ?_
   refine Xk 21 rfl (fun h6 => ?_) (fun h6 => ?_)
   ·refine Qn rfl rfl (decide_eq_true h6) ?_
    refine Qu rfl Yz (by exact hS5.cell 1 rfl rfl) rfl ?_
    refine Qn rfl rfl (decide_eq_true h6) ?_
    refine Qb rfl rfl ?_
    refine Qn rfl rfl (decide_eq_true h6) ?_
    refine Qb rfl rfl ?_
    refine Qn rfl rfl (decide_eq_true h6) ?_
    refine QN rfl rfl (by omega) (by omega) rfl ?_
    refine Qn rfl rfl (decide_eq_true h6) ?_
    have hC7 := hS5.split [] [false, false, false] rfl; dsimp only [QC, Qz, Q9, Q8, Q7] at hC7
    refine Qo Cn rfl (B1 hC7 page (a + m) (by omega) hpl) rfl ?_
    rintro e w7 ⟨_, rfl, rfl, hS7⟩; refine ⟨_, rfl, ?_⟩
    replace hS7 := hS7.join rfl; dsimp only [QU, QT, Q8, Q7] at hS7; clear hC7
    clear hS5
    refine Qn rfl rfl (decide_eq_true h6) ?_
    refine Xt rfl rfl rfl ?_
    refine Xg rfl (decide_eq_true h6) rfl rfl ?_
    refine Qf (Qc ?_)
    refine Qh (L' := [(28, _), (0, _), (1, _), (3, _), (4, _), (5, _)]) (Wf rfl rfl rfl rfl rfl rfl) ?_
    refine Qx rfl (fun h8 => ?_) (fun h8 => ?_)
    ·refine Qy (Qc (Q1 (Qa (Qb rfl rfl ?_))))
     refine QN rfl rfl (by omega) (by omega) rfl ?_
     refine Qe rfl rfl (Qf (Qp ?_))
     exact QG (L1 := [(0, _), (1, _), (3, _), (4, intV ((m + 1 : Nat) : Int)), (5, _)]) (ZH rfl rfl rfl rfl rfl) (k1 := page.length - a - (m + 1)) (by omega) ⟨m + 1, rfl, rfl, hS7.pick [0, 1, 2] rfl, by omega, by omega, by rw [hm3, PX (List.getElem?_eq_getElem (by omega)) (by omega), show a + (m + 1) = a + m + 1 by omega]; omega⟩
    refine QZ (Qv (Qv (Q4 (Qc (Qd (Qd ?_))))))
    have hm : Wt (page.drop a) = m := by unfold Wt; rw [if_neg (by omega), List.drop_drop]; have := Mc (s := page) (k := a + m) (.inr (by omega)); omega
    have hbb : decide (3 ≤ US (page.drop a)) = false := by exact decide_eq_false (by omega)
    have hpc : KT page = ks ++ ((page.take (a + m)).drop a, false) :: KT (page.drop (a + m)) := by rw [hks, Vm (l := page.drop a) (fun q => by have := congrArg List.length q; rw [List.length_drop] at this; simp at this; omega), List.drop_drop, hm, hbb, List.drop_take, show a + m - a = m by omega]
    have hSy := (hS7.split [0] [true, false, false] rfl); dsimp only [QC, Qz, Q9, Q8, Q7] at hSy
    refine Js ?_
    refine XD rfl (Qr rfl) ?_
    refine XD rfl (Qm rfl Yz (hS7.cell 1 rfl rfl)) ?_
    refine XD rfl (Qr rfl) ?_
    refine XD rfl (Qr rfl) ?_
    refine XD rfl (Qr rfl) ?_
    refine XD rfl (Kx rfl rfl (by omega) (by omega)) ?_
    refine XD rfl (Up a (a + m) Tryz.underlying9 rfl (KW a _ rfl rfl) (KW (a + m) _ rfl (by omega)) (by omega) (by omega)) ?_
    refine XD rfl (Qr rfl) ?_
    refine UB rfl rfl rfl rfl (hY ks ((page.take (a + m)).drop a, false) _ _ ⟨_, hpc⟩ hSy) ?_
    intro w5 hS5; replace hS5 := hS5.join rfl; dsimp only [QU, QT, Q8, Q7] at hS5
    refine XD rfl (UR rfl) ?_
    refine HT ?_
    refine Qc ?_
    refine Qh (L' := [(40, _), (0, _), (1, _), (3, _), (4, _)]) (ZH rfl rfl rfl rfl rfl) ?_
    refine Xm rfl ?_
    refine Qy (Qc (Qa (Qb rfl rfl (Qb rfl rfl ?_))))
    refine QN rfl rfl (by omega) (by omega) rfl ?_
    refine Qe rfl rfl (Qf (Qp ?_))
    exact QG (L1 := [(0, _), (1, _), (3, intV ((a + m : Nat) : Int))]) (Y2 rfl rfl rfl) (k1 := page.length - (a + m)) (by omega) ⟨_, a + m, rfl, rfl, hS5.pick [0, 1, 2] rfl, by rw [hpc, List.append_assoc]; rfl, by omega⟩
   refine Ql rfl rfl (decide_eq_false h6) rfl ?_
   refine Ql rfl rfl (decide_eq_false h6) rfl ?_
   refine Ql rfl rfl (decide_eq_false h6) rfl ?_
   refine Ql rfl rfl (decide_eq_false h6) rfl ?_
   refine Ql rfl rfl (decide_eq_false h6) rfl ?_
   refine Ql rfl rfl (decide_eq_false h6) rfl ?_
   refine QX rfl (decide_eq_false h6) rfl rfl ?_
   refine Qf (Qc ?_)
   refine Qh (L' := [(28, _), (0, _), (1, _), (3, _), (4, _), (5, _)]) (Wf rfl rfl rfl rfl rfl rfl) ?_
   refine Xm rfl ?_
   refine QZ (Qv (Qv (Q4 (Qc (Qd (Qd ?_))))))
   have hm : Wt (page.drop a) = m := by unfold Wt; rw [if_neg (by omega), List.drop_drop]; have := Mc (s := page) (k := a + m) (.inl (by omega)); omega
   have hbb : decide (3 ≤ US (page.drop a)) = false := by exact decide_eq_false (by omega)
   have hpc : KT page = ks ++ ((page.take (a + m)).drop a, false) :: KT (page.drop (a + m)) := by rw [hks, Vm (l := page.drop a) (fun q => by have := congrArg List.length q; rw [List.length_drop] at this; simp at this; omega), List.drop_drop, hm, hbb, List.drop_take, show a + m - a = m by omega]
   have hSy := (hS5.split [0] [true, false, false] rfl); dsimp only [QC, Qz, Q9, Q8, Q7] at hSy
   refine Js ?_
   refine XD rfl (Qr rfl) ?_
   refine XD rfl (Qm rfl Yz (hS5.cell 1 rfl rfl)) ?_
   refine XD rfl (Qr rfl) ?_
   refine XD rfl (Qr rfl) ?_
   refine XD rfl (Qr rfl) ?_
   refine XD rfl (Kx rfl rfl (by omega) (by omega)) ?_
   refine XD rfl (Up a (a + m) Tryz.underlying9 rfl (KW a _ rfl rfl) (KW (a + m) _ rfl (by omega)) (by omega) (by omega)) ?_
   refine XD rfl (Qr rfl) ?_
   refine UB rfl rfl rfl rfl (hY ks ((page.take (a + m)).drop a, false) _ _ ⟨_, hpc⟩ hSy) ?_
   intro w5 hS5; replace hS5 := hS5.join rfl; dsimp only [QU, QT, Q8, Q7] at hS5
   refine XD rfl (UR rfl) ?_
   refine HT ?_
   refine Qc ?_
   refine Qh (L' := [(40, _), (0, _), (1, _), (3, _), (4, _)]) (ZH rfl rfl rfl rfl rfl) ?_
   refine Xm rfl ?_
   refine Qy (Qc (Qa (Qb rfl rfl (Qb rfl rfl ?_))))
   refine QN rfl rfl (by omega) (by omega) rfl ?_
   refine Qe rfl rfl (Qf (Qp ?_))
   exact QG (L1 := [(0, _), (1, _), (3, intV ((a + m : Nat) : Int))]) (Y2 rfl rfl rfl) (k1 := page.length - (a + m)) (by omega) ⟨_, a + m, rfl, rfl, hS5.pick [0, 1, 2] rfl, by rw [hpc, List.append_assoc]; rfl, by omega⟩
  refine Qy (Qc (Qd (Qd ?_)))
  obtain ⟨m, hm0⟩ : ∃ m, m = US (page.drop a) := ⟨_, rfl⟩
  have hm : Wt (page.drop a) = m := by unfold Wt; rw [if_pos (by omega), hm0]
  have hbb : decide (3 ≤ US (page.drop a)) = true := by exact decide_eq_true (by omega)
  rw [← hm0]
  have hpc : KT page = ks ++ ((page.take (a + m)).drop a, true) :: KT (page.drop (a + m)) := by rw [hks, Vm (l := page.drop a) (fun q => by have := congrArg List.length q; rw [List.length_drop] at this; simp at this; omega), List.drop_drop, hm, hbb, List.drop_take, show a + m - a = m by omega]
  have hSy := (hS3.split [0] [true, false, false] rfl); dsimp only [QC, Qz, Q9, Q8, Q7] at hSy
  refine Js ?_
  refine XD rfl (Qr rfl) ?_
  refine XD rfl (Qm rfl Yz (hS3.cell 1 rfl rfl)) ?_
  refine XD rfl (Qr rfl) ?_
  refine XD rfl (Qr rfl) ?_
  refine XD rfl (Qr rfl) ?_
  refine XD rfl (Kx rfl rfl (by omega) (by omega)) ?_
  refine XD rfl (Up a (a + m) Tryz.underlying9 rfl (KW a _ rfl rfl) (KW (a + m) _ rfl (by omega)) (by omega) (by omega)) ?_
  refine XD rfl (Qr rfl) ?_
  refine UB rfl rfl rfl rfl (hY ks ((page.take (a + m)).drop a, true) _ _ ⟨_, hpc⟩ hSy) ?_
  intro w5 hS5; replace hS5 := hS5.join rfl; dsimp only [QU, QT, Q8, Q7] at hS5
  refine XD rfl (UR rfl) ?_
  refine HT ?_
  refine Qc ?_
  refine Qh (L' := [(40, _), (4, _), (0, _), (1, _), (3, _)]) (ZH rfl rfl rfl rfl rfl) ?_
  refine Xm rfl ?_
  refine Qy (Qc (Qa (Qb rfl rfl (Qb rfl rfl ?_))))
  refine QN rfl rfl (by omega) (by omega) rfl ?_
  refine Qe rfl rfl (Qf (Qp ?_))
  exact QG (L1 := [(0, _), (1, _), (3, intV ((a + m : Nat) : Int))]) (Y2 rfl rfl rfl) (k1 := page.length - (a + m)) (by omega) ⟨_, a + m, rfl, rfl, hS5.pick [0, 1, 2] rfl, by rw [hpc, List.append_assoc]; rfl, by omega⟩
 refine QZ (Qv (Qv (Q4 ?_)))
 refine W4 (.inl rfl) rfl ?_
 exact ⟨_, rfl, by rw [show a = page.length by omega, List.drop_length, BN, List.append_nil] at hks; rw [hks]; exact hS1⟩
theorem pcs_sp {w : World} {page : Bs} {F : Th} (hS : Sat w [F]) :
    Calls Tryz.prog 177 #[strV page] w (Ret fun v w' => ∃ c, v = .func (.func 215) #[] #[ptrV c 0] ∧ Sat w' [QO c [strV page], F]) := by
 refine Qt Tryz.func177 rfl Tryz.ntmps177 rfl ?_
 refine Qd (Qa ?_)
 refine Zf hS rfl rfl rfl ?_
 intro b1 w1 hS1
 refine Qe rfl rfl (Qf (Qc (Qd (Qa ?_))))
 refine ZL rfl rfl ?_
 refine Qe rfl rfl (Qf (Qc (Q0 ?_)))
 refine QV (.inr rfl) rfl rfl ?_
 exact ⟨_, rfl, _, rfl, hS1⟩
end Go.Proofs.YtkcjfoaejijdoaaGreatDoor
/- compress: Pack -/
namespace Go.Proofs.YtkcjfoaejijdoaaGreatDoor
open Go.RowKit M
set_option linter.unusedVariables false
def TS (o : Option Bs) : Value := .tuple #[strV (o.getD []), .bool o.isSome]
def Jp (l D b : Nat) (rec : Loop) (ks : List (Bs × Bool)) : Th := starL [Jl l rec, Wu D, U0 b (Zc ks)]
set_option maxRecDepth 100000 in
set_option maxHeartbeats 800000000 in
theorem BO {w : World} {F : Th} (hS : Sat w [F]) (page : Bs) (hp : page.length = 64) :
    Calls Tryz.prog 141 #[strV page] w (Ret fun v w' => v = TS (YR page) ∧ Sat w' [F]) := by
 obtain ⟨hpo, hpf, hpl⟩ := Bn (p := page) (by omega)
 have heL := Gi hpo
 refine Hs Tryz.func141 rfl Tryz.ntmps141 rfl ?_
 refine Qd (Qa (Qe rfl rfl (Qe rfl rfl (Qf (Qc (Qd (Qd (Qa (Qb rfl rfl ?_)))))))))
 refine Wg Tryz.underlying9 rfl rfl ?_
 refine Xh rfl rfl rfl ?_
 refine Qf (Qc ?_)
 refine Qx rfl (fun h1 => ?_) (fun h1 => ?_)
 ·exact absurd h1 (by simp; omega)
 refine Qy (Qc (Qd (Qa ?_)))
 refine GR hS NS (cs := [.pointer none, .slice none 0 0]) rfl rfl ?_
 intro bb wB hSB
 have hSC := Ha (.inl rfl) ((MA hSB).perm (List.Perm.swap _ _ _))
 refine Qf (Qc (Qd (Qd (Qa (Qb rfl rfl ?_)))))
 have hC2 := hSC.split [] [false, false] rfl; dsimp only [QC, Qz, Q9, Q8, Q7] at hC2
 refine Qo cal_177 rfl (pcs_sp hC2 (page := page)) rfl ?_
 rintro e w2 ⟨_, rfl, c, rfl, hS2⟩; refine ⟨_, rfl, ?_⟩
 replace hS2 := hS2.join rfl; dsimp only [QU, QT, Q8, Q7] at hS2; clear hC2
 clear hSC
 refine Qf (Qc (Q1 ?_))
 refine He (caps := [ptrV c 0]) rfl cal_215 ?_
 intro rec hr1 hr2 hr3 hr4 hr5 htn htf
 have hE := hS2.enter_loop rec
 have hE2 := hE.pick [0, 1, 3, 2, 4] rfl
 have hE3 := Sat.fold (As := [Jl _ rec, Wu _, U0 _ (Zc [])]) hE2
 refine (pcs_it (J := Jp _ _ bb rec) (by omega) hE3 ?_).mono ?_
 rotate_left
 ·rintro e w3 ⟨v0, rfl, hw3⟩
  have hw4 := hw3.flat; dsimp only [Q8, Q7] at hw4
  refine ⟨⟨v0, rfl⟩, rec, hw4.loop 0 rfl, by rw [hr1]; simp, hr2, ?_⟩
  intro a0 ha1 ha2
  have hw5 := hw4.loop_put 0 rfl (rec' := { rec with state := .exhausted }); dsimp only [List.set] at hw5
  refine qsD_app (n := 32) ha2 (by rw [ha1]; exact htn) (by rw [ha1]; exact htf) ?_
  refine Kn ?_
  refine X6 ?_
  refine XE ?_
  refine XE ?_
  refine XA ?_
  have hC3 := hw5.split [2] [false, false, true, false, false] rfl; dsimp only [QC, Qz, Q9, Q8, Q7] at hC3
  refine Qo cal_178 rfl (bl_len hC3) rfl ?_
  rintro e w3 ⟨_, rfl, rfl, hS3⟩; refine ⟨_, rfl, ?_⟩
  replace hS3 := hS3.join rfl; dsimp only [QU, QT, Q8, Q7] at hS3; clear hC3
  clear hw5
  refine UA rfl rfl rfl ?_
  refine Qf ?_
  refine Zn ?_
  refine X6 ?_
  refine Wh (L' := [(30, _), (4, _), (3, _), (2, _)]) (Jr rfl rfl rfl rfl) ?_
  refine CI rfl (fun h4 => ?_) (fun h4 => ?_)
  ·refine XE ?_
   refine XA ?_
   refine Qe rfl rfl (Qe rfl rfl (Qf ?_))
   refine Zn ?_
   refine X6 ?_
   refine Y5 ?_
   refine Hm ?_
   obtain ⟨hD, hZ⟩ := hS3.defer_put (o := .deferred none) 2 rfl
   dsimp only [List.eraseIdx] at hZ
   refine finM (.inr rfl) hD (res2 rfl rfl rfl) ?_
   exact ⟨_, rfl, by unfold YR; rw [if_neg (by omega)]; rfl, hZ.pick [3] rfl⟩
  refine H5 ?_
  refine X6 ?_
  refine XE ?_
  refine XA ?_
  have hC5 := hS3.split [0] [true, false, false, false, false] rfl; dsimp only [QC, Qz, Q9, Q8, Q7] at hC5
  refine Qo Dp rfl (NK hC5 (by omega)) rfl ?_
  rintro e w5 ⟨_, rfl, rfl, hS5⟩; refine ⟨_, rfl, ?_⟩
  replace hS5 := hS5.join rfl; dsimp only [QU, QT, Q8, Q7] at hS5; clear hC5
  clear hS3
  refine Qe rfl rfl (Qe rfl rfl (Qf ?_))
  refine Zn ?_
  refine X6 ?_
  refine Y5 ?_
  obtain ⟨hD, hZ⟩ := hS5.defer_put (o := .deferred none) 1 rfl
  dsimp only [List.eraseIdx] at hZ
  refine finM (.inr rfl) hD (res2 rfl rfl rfl) ?_
  exact ⟨_, rfl, by unfold YR; rw [if_pos (by omega)]; rfl, hZ.pick [2] rfl⟩
 intro ks k R w2 hok hw2
 have hw4 := hw2.flat; dsimp only [Jp, Q8, Q7] at hw4
 have hw6 := hw4
 obtain ⟨rest, hrest⟩ := hok
 have hok1 : okP k := hpo _ (by rw [hrest]; simp)
 have hkl : ks.length ≤ 64 := by have := congrArg List.length hrest; simp at this; omega
 have hel := Gi (l := ks) (fun y hy => hpo _ (by rw [hrest]; simp [hy]))
 obtain ⟨hk1, hk2, hk3⟩ := hok1
 refine yieldG (hw6.loop 0 rfl) hr1 hr2 hr3 hr4 hr5 htn htf rfl rfl ?_
 refine Ra ?_
 refine WU (by rintro ⟨_, _, q⟩; exact q) rfl ?_
 refine Qe rfl rfl (Qf ?_)
 refine Rg ?_
 refine BB (L' := [(5, _), (13, _), (4, _), (3, _), (2, _)]) (ZH rfl rfl rfl rfl rfl) ?_
 refine WU (by rintro ⟨_, _, q⟩; exact q) rfl ?_
 refine Qe rfl rfl (Qf ?_)
 refine CY (hw6.loop 0 rfl) hr1 ?_
 have hw7 := hw6.loop_put 0 rfl (rec' := { rec with state := .busy }); dsimp only [List.set] at hw7
 refine CH ?_
 refine Ra ?_
 refine WU (by rintro ⟨_, _, q⟩; exact q) rfl ?_
 refine Qb rfl rfl (Qf ?_)
 refine Rg ?_
 refine Pa rfl (fun h6 => ?_) (fun h6 => ?_)
 ·have hkT : k.2 = true := h6
  refine Ra ?_
  refine WU (by rintro ⟨_, _, q⟩; exact q) rfl ?_
  refine Qb rfl rfl ?_
  refine Wg Tryz.underlying9 rfl rfl ?_
  refine QN rfl rfl (by omega) (by omega) rfl ?_
  refine Y3 (128 + k.1.length) Tryz.underlying3 Tryz.underlying5 rfl (by rfl) rfl ?_
  have hC7 := hw7.split [2] [false, false, true, false] rfl; dsimp only [QC, Qz, Q9, Q8, Q7] at hC7
  refine Qo Rs rfl (JU hC7 (UInt8.ofNat (128 + k.1.length)) (by omega)) rfl ?_
  rintro e w7 ⟨_, rfl, rfl, hS7⟩; refine ⟨_, rfl, ?_⟩
  replace hS7 := hS7.join rfl; dsimp only [QU, QT, Q8, Q7] at hS7; clear hC7
  clear hw7
  refine Qf ?_
  refine Rg ?_
  refine BB (L' := [(5, _), (4, _), (3, _), (2, _)]) (Jr rfl rfl rfl rfl) ?_
  refine WU (by rintro ⟨_, _, q⟩; exact q) rfl ?_
  refine Qb rfl rfl ?_
  refine ZW (c := k.1.headD 0) 0 Tryz.underlying9 rfl rfl rfl (by rw [← List.head?_eq_getElem?]; cases hq : k.1 with | nil => rw [hq] at hk1; simp at hk1 | cons x l => rfl) rfl ?_
  have hC8 := hS7.split [0] [true, false, false, false] rfl; dsimp only [QC, Qz, Q9, Q8, Q7] at hC8
  refine Qo Rs rfl (JU hC8 (k.1.headD 0) (by simp; omega)) rfl ?_
  rintro e w8 ⟨_, rfl, rfl, hS8⟩; refine ⟨_, rfl, ?_⟩
  replace hS8 := hS8.join rfl; dsimp only [QU, QT, Q8, Q7] at hS8; clear hC8
  clear hS7
  refine Qf ?_
  refine YP ?_
  refine TP (hS8.loop 1 rfl) hr1 hr2 ?_
  have hw9 := hS8.loop_put 1 rfl (rec' := rec); dsimp only [List.set] at hw9
  have hek : Zc (ks ++ [k]) = Zc ks ++ [UInt8.ofNat (128 + k.1.length)] ++ [k.1.headD 0] := by rw [Yx]; simp only [Zc, List.flatMap_cons, List.flatMap_nil, List.append_nil]; rw [Gj, if_pos hkT]; simp
  refine Sat.fold (As := [Jl _ rec, Wu _, U0 _ (Zc (ks ++ [k]))]) ?_
  rw [hek]; exact hw9.pick [1, 2, 0, 3] rfl
 have hkF : k.2 = false := h6
 refine Ra ?_
 refine WU (by rintro ⟨_, _, q⟩; exact q) rfl ?_
 refine Qb rfl rfl ?_
 refine Wg Tryz.underlying9 rfl rfl ?_
 refine Y3 k.1.length Tryz.underlying3 Tryz.underlying5 rfl (by rfl) rfl ?_
 have hC9 := hw7.split [2] [false, false, true, false] rfl; dsimp only [QC, Qz, Q9, Q8, Q7] at hC9
 refine Qo Rs rfl (JU hC9 (UInt8.ofNat k.1.length) (by omega)) rfl ?_
 rintro e w9 ⟨_, rfl, rfl, hS9⟩; refine ⟨_, rfl, ?_⟩
 replace hS9 := hS9.join rfl; dsimp only [QU, QT, Q8, Q7] at hS9; clear hC9
 clear hw7
 refine Qf ?_
 refine Rg ?_
 refine BB (L' := [(5, _), (4, _), (3, _), (2, _)]) (Jr rfl rfl rfl rfl) ?_
 refine WU (by rintro ⟨_, _, q⟩; exact q) rfl ?_
 refine Qb rfl rfl ?_
 have hC10 := hS9.split [0] [true, false, false, false] rfl; dsimp only [QC, Qz, Q9, Q8, Q7] at hC10
 refine Qo Cw rfl (HO hC10 k.1 (by simp; omega)) rfl ?_
 rintro e w10 ⟨_, rfl, rfl, hS10⟩; refine ⟨_, rfl, ?_⟩
 replace hS10 := hS10.join rfl; dsimp only [QU, QT, Q8, Q7] at hS10; clear hC10
 clear hS9
 refine Qf ?_
 refine YP ?_
 refine TP (hS10.loop 1 rfl) hr1 hr2 ?_
 have hw9 := hS10.loop_put 1 rfl (rec' := rec); dsimp only [List.set] at hw9
 have hek : Zc (ks ++ [k]) = Zc ks ++ [UInt8.ofNat k.1.length] ++ k.1 := by rw [Yx]; simp only [Zc, List.flatMap_cons, List.flatMap_nil, List.append_nil]; rw [Gj, if_neg (by rw [hkF]; decide)]; simp
 refine Sat.fold (As := [Jl _ rec, Wu _, U0 _ (Zc (ks ++ [k]))]) ?_
 rw [hek]; exact hw9.pick [1, 2, 0, 3] rfl
end Go.Proofs.YtkcjfoaejijdoaaGreatDoor
