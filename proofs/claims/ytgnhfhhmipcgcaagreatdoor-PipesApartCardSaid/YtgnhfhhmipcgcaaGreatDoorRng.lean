/- A range over a function, as things: the loop's record, a round, the statement. Conditions: each rule's own hypotheses. -/
import Derived.Test.YtgnhfhhmipcgcaaGreatDoorShf
import Derived.RangeFuncIn
import Derived.RangeFuncRecord
import Derived.RangeFuncLeaves
import Derived.RangeFuncSeq
import Derived.TacticsIn
namespace Go.Proofs.YtgnhfhhmipcgcaaGreatDoor.M
open Go.RowKit

section
variable {P : Program} {n m l : Nat} {ops : Array Oper} {Q : Exit → Act → World → Prop} {L : Env} {w : World}

abbrev RF (l : Nat) : Fence := Fence.wide.inRound l
theorem callsIn_round {f : FuncId} {args : Array Value} {R : Ending → World → Prop} (h : Calls P f args w R) : CallsIn (RF l) m P f args w R := (callsIn_wide (n := m)).2 h
theorem rowsIn_round {row : String} {args : Array Value} {R : Value → World → Prop} (h : Rows P row args w R) : RowsIn (RF l) m P row args w R := fun c cs _ => by
  obtain ⟨v, w', r, s⟩ := h c cs
  exact ⟨v, w', r, stepsIn_wide.2 s⟩
theorem uponIn_of_upon {o : Oper} {a : Act} {next : Act → World → Prop} {r : Result Next} (h : o.upon P a next Q r) : o.uponIn (RF l) m P a next Q r := by
  unfold Oper.upon at h
  split at h
  · exact h
  · exact h
  · exact h
  · exact ⟨fun q => by simp [RF, Fence.wide, Fence.inRound] at q, callsIn_round h⟩
  · exact ⟨fun q => by simp [RF, Fence.wide, Fence.inRound] at q, rowsIn_round h⟩
  · exact h
  · exact h.elim
def noDefer (rest : List Oper) : Prop := ∀ o ∈ rest, ∀ c, o.op ≠ .defer c
theorem listIn_of (hQ : ¬ LetsOut Q) : ∀ (rest : List Oper) (a : Act) (w : World), noDefer rest → wpList P ops Q rest a w → wpListIn (RF l) m P ops Q rest a w
  | [], _, _, _, h => h
  | o :: rest, a, w, hd, h => by
    unfold wpList at h
    unfold wpListIn
    have hr : noDefer rest := fun q hq => hd q (List.mem_cons_of_mem _ hq)
    split
    · rename_i hw
      rw [if_pos hw] at h
      rcases h with h | h
      · refine ⟨fun _ _ => trivial, ?_⟩
        rw [Oper.semAt_eq _ _ _ (hd o (by simp))]
        have h2 := uponIn_of_upon (l := l) (m := m) h
        revert h2
        generalize (execOp a.eval o).run P w = r
        intro h2
        unfold Oper.uponIn at h2 ⊢
        split at h2
        · exact listIn_of hQ rest _ _ hr h2
        · exact listIn_of hQ rest _ _ hr h2
        · exact listIn_of hQ rest _ _ hr h2
        · refine ⟨h2.1, h2.2.mono fun e w' he => ?_⟩
          cases e with
          | returned v => exact listIn_of hQ rest _ _ hr he
          | panicked c => exact he
          | outgrown => exact he
        · exact ⟨h2.1, h2.2.mono fun v w' he => listIn_of hQ rest _ _ hr he⟩
        · refine ⟨h2.1, h2.2.mono fun e w' he => ?_⟩
          cases e with
          | returned v => exact listIn_of hQ rest _ _ hr he
          | panicked c => exact he
          | outgrown => exact he
        · exact h2
        · exact h2.elim
      · exact absurd h.2 hQ
    · rename_i hw
      rw [if_neg hw] at h
      exact ⟨fun _ _ => trivial, listIn_of hQ rest _ _ hr h⟩

/-- one round of the loop, out of the walks of its assignment and of its body -/
theorem yield_sp {t : Nat} {x : Value} {rec : Loop} {idA idB idR : Nat} {opsA opsR : Array Oper} {L0 : Env} {R : World → Prop}
    (hrec : w.heap[l]? = some (.loop rec)) (hst : rec.state = .ready) (hpd : rec.pending = none) (hps : rec.params = #[t]) (has : rec.assign = .region idA opsA false) (hbo : rec.body = .block idB (.region idR opsR false)) (htn : rec.tmps.size = n)
    (hfr : ∀ t v, eget L0 t = some v → rec.tmps[t]? = some v) (ht : Nat.blt t n = true) (hdA : noDefer opsA.toList) (hdR : noDefer opsR.toList)
    (h : ∀ QA : Exit → Act → World → Prop,
      (∀ L1 w1, w1.heap[l]? = some (.loop rec) → (∀ QB : Exit → Act → World → Prop, (∀ L2 w2, w2.heap[l]? = some (.loop { rec with state := .busy }) → R (w2.putObj l (.loop rec)) → qs n QB .normal L2 w2) → wl P n opsR QB opsR.toList L1 (w1.putObj l (.loop { rec with state := .busy }))) → qs n QA .normal L1 w1) →
      wl P n opsA QA opsA.toList ((t, x) :: L0) w) :
    YieldAt Fence.wide m P l #[x] w (fun e w' => e = .returned (.bool true) ∧ R w') := by
  refine ⟨rec.fn, rec.tmps.setIfInBounds t x, rec.assign, rec.body, ?_, roundIn_of_wpIn trivial ?_⟩
  · have := run_yield (P := P) (args := #[x]) hrec (by simp [hps])
    simpa [hps] using this
  · have hA := h (Exit.then (fun a₁ w₁ => ∃ w₂, (Instr.beginRound l).run P w₁ = .ok () w₂ ∧ rec.body.wpIn (RF l) m P (roundPost P l fun e w' => e = .returned (.bool true) ∧ R w') a₁ w₂) (fun _ _ _ => False)) ?_
    · unfold wl at hA
      have ha0 : Fr n L0 { tmps := rec.tmps, defers := [] } := ⟨htn, rfl, hfr⟩
      have h1 := hA _ (ha0.put (some t) x ht)
      rw [has]
      exact wpIn_region_list (listIn_of (by rintro ⟨a, w, q⟩; exact q) _ _ _ hdA h1)
    · intro L1 w1 hr1 hB
      unfold qs
      intro a ha
      refine ⟨_, run_beginRound hr1 hst, ?_⟩
      have key : ∀ c : Code, c = .block idB (.region idR opsR false) → c.wpIn (RF l) m P (roundPost P l fun e w' => e = .returned (.bool true) ∧ R w') a (w1.putObj l (.loop { rec with state := .busy })) := ?_
      · exact key _ hbo
      rintro _ rfl
      refine wpIn_block (wpIn_region_list ?_)
      have h2 := hB (Exit.inBlock idB (roundPost P l fun e w' => e = .returned (.bool true) ∧ R w')) ?_
      · unfold wl at h2
        exact listIn_of (by rintro ⟨a, w, q⟩; exact q) _ _ _ hdR (h2 a ha)
      · intro L2 w2 hr2 hR
        unfold qs
        intro a2 _
        refine ⟨_, _, run_endRound none hr2, rfl, ?_⟩
        have e : ({ { rec with state := .busy } with state := if (none : Option Code).isNone then .ready else .done, pending := none } : Loop) = rec := by
          cases rec; simp at hst hpd; subst hst hpd; rfl
        rw [e]; exact hR
/-- the statement -/
theorem wc_rangeFunc {g : Operand} {ps : Array Tmp} {assign body : Code} {gf : Nat} {caps : List Value} (hg : look L g = some (.func (.func gf) #[] caps.toArray)) (hc : callB P gf = true)
    (h : ∀ rec : Loop, rec.state = .ready → rec.pending = none → rec.params = ps → rec.assign = assign → rec.body = body → rec.tmps.size = n → (∀ t v, eget L t = some v → rec.tmps[t]? = some v) →
      Calls P gf (Value.func (.yield (w.heap.size + 1)) #[] #[] :: caps).toArray ((w.alloc (.deferred (some []))).alloc (.loop rec)) (fun e w3 => (∃ v, e = .returned v) ∧ ∃ rec' : Loop, w3.heap[w.heap.size + 1]? = some (.loop rec') ∧ rec'.state ≠ .busy ∧ rec'.pending = none ∧
        ∀ a : Act, a.tmps = rec.tmps → a.defers = [{ target := .collected w.heap.size, args := #[] }] → Q .normal a (w3.putObj (w.heap.size + 1) (.loop { rec' with state := .exhausted })))) :
    wc P n (.rangeFunc g ps assign body) Q L w := by
  unfold wc
  intro a ha
  refine (wpIn_wide (n := 0)).1 (wpIn_rangeFunc fun fn _ => ?_)
  obtain ⟨W1, hW1⟩ : ∃ W1, W1 = (w.alloc (.deferred (some []))).alloc (.loop { state := .ready, pending := none, fn, tmps := a.tmps, params := ps, assign, body, defers := w.heap.size }) := ⟨_, rfl⟩
  have e1 : (Instr.enterLoop fn a.tmps ps assign body none).run P w = .ok (w.heap.size + 1, [{ target := .collected w.heap.size, args := #[] }]) W1 := by rw [hW1]; exact run_enterLoop_outer fn a.tmps ps assign body
  have e2 : (resolve a.eval (rangeCall g (w.heap.size + 1)) 0).run P W1 = .ok { target := .fn (.func gf) caps.toArray, args := #[Value.func (.yield (w.heap.size + 1)) #[] #[]] } W1 := by
    simp only [resolve, rangeCall, ha.eval hg, Deferred.ofValue]
    simp [Act.eval]
  have e3 : (invoke (.fn (.func gf) caps.toArray) #[Value.func (.yield (w.heap.size + 1)) #[] #[]]).run P W1 = .ok (.enter gf (Value.func (.yield (w.heap.size + 1)) #[] #[] :: caps).toArray) W1 := by
    have := callB_run hc (Value.func (.yield (w.heap.size + 1)) #[] #[] :: caps).toArray W1
    simp only [invoke]
    simpa using this
  refine ⟨w.heap.size + 1, [{ target := .collected w.heap.size, args := #[] }], W1, { target := .fn (.func gf) caps.toArray, args := #[Value.func (.yield (w.heap.size + 1)) #[] #[]] }, W1, gf, (Value.func (.yield (w.heap.size + 1)) #[] #[] :: caps).toArray, W1, e1, e2, fun _ _ => trivial, e3, fun q => by simp [Fence.wide] at q, ?_⟩
  subst hW1
  · refine callsIn_wide.2 ((h { state := .ready, pending := none, fn, tmps := a.tmps, params := ps, assign, body, defers := w.heap.size } rfl rfl rfl rfl rfl ha.size ha.get).mono fun e w3 ⟨⟨v, he⟩, rec, h1, h2, h3, h4⟩ => ?_)
    subst he
    obtain ⟨st, pd, f1, t1, p1, a1, b1, d1⟩ := rec
    simp only at h3
    subst h3
    exact ⟨none, _, run_endLoop h1 h2, h4 { a with defers := [{ target := .collected w.heap.size, args := #[] }] ++ a.defers } rfl (by rw [ha.defers]; rfl)⟩
/-- a function that holds one -/
theorem calls_enterM {f : FuncId} {fn : Func} {c : Code} {args : List Value} {R : Ending → World → Prop} (hf : P.funcs[f]? = some fn) (hb : fn.body = some c) (hn : fn.ntmps = n) (hl : Nat.ble args.length n = true)
    (h : wc P n c (bodyPostM Fence.wide 0 P fn R) (argsE 0 args) w) : Calls P f args.toArray w R := by
  have hle : args.length ≤ n := Nat.le_of_ble_eq_true hl
  unfold wc at h
  refine callsIn_wide.1 (callsIn_of_wp_marks (F := Fence.wide) (n := 0) hf hb trivial ((wpIn_wide (n := 0)).2 (h _ ⟨by simp [hn]; omega, rfl, fun t v ht => ?_⟩)))
  obtain ⟨_, h2⟩ := argsE_get args 0 t v ht
  simp only [Nat.sub_zero] at h2
  have hlt := (List.getElem?_eq_some_iff.1 h2).1
  rw [Array.getElem?_append_left (by simpa using hlt)]
  simpa using h2

/-! ### an iterator's own walk: a region that calls yield -/
@[irreducible] def wlI (P : Program) (n : Nat) (ops : Array Oper) (Q : Exit → Act → World → Prop) (rest : List Oper) (L : Env) (w : World) : Prop := ∀ a, Fr n L a → wpListIn Fence.wide 0 P ops Q rest a w
theorem wc_regionI {id : Nat} (h : wlI P n ops Q ops.toList L w) : wc P n (.region id ops false) Q L w := by
  unfold wlI at h; unfold wc
  intro a ha
  exact (wpIn_wide (n := 0)).1 (wpIn_region_list (h a ha))
theorem wlI_nil (h : qs n Q .normal L w) : wlI P n ops Q [] L w := by
  unfold wlI; unfold qs at h
  exact h
theorem wlI_val {rest : List Oper} {d : Nat} {op : Op} {v : Value} {ty : TypeId} {pos : String} {aft : Array Edge} (hd : Nat.blt d n = true) (h : Ev P L w ⟨some d, op, ty, pos, aft, none⟩ v) (hk : wlI P n ops Q rest ((d, v) :: L) w) : wlI P n ops Q (⟨some d, op, ty, pos, aft, none⟩ :: rest) L w := by
  unfold wlI at *
  intro a ha
  unfold wpListIn
  rw [if_pos (by simp [Region.wanted])]
  refine ⟨fun _ _ => trivial, ?_⟩
  have h1 := h a.eval (fun x u hx => ha.eval hx)
  show Oper.uponIn _ _ _ _ _ _ _ ((Oper.semAt none a.eval _).run P w)
  rw [Oper.semAt_none, h1]
  exact hk _ (ha.put (some d) v hd)
theorem wlI_yield {rest : List Oper} {d : Nat} {x y : Operand} {u v : Value} {ts : Array TypeId} {ty : TypeId} {pos : String} {aft : Array Edge} {R : World → Prop} (hx : look L x = some (.func (.yield l) #[] #[])) (hy : look L y = some v) (hd : Nat.blt d n = true)
    (hY : YieldAt Fence.wide 0 P l #[v] w (fun e w' => e = .returned u ∧ R w')) (hk : ∀ w', R w' → wlI P n ops Q rest ((d, u) :: L) w') : wlI P n ops Q (⟨some d, .call ⟨.value x, #[y], ts⟩, ty, pos, aft, none⟩ :: rest) L w := by
  obtain ⟨fn, tmps, assign, body, h1, h2⟩ := hY
  unfold wlI at *
  intro a ha
  unfold wpListIn
  rw [if_pos (by simp [Region.wanted])]
  refine ⟨fun _ _ => trivial, ?_⟩
  have h3 : (execOp a.eval ⟨some d, .call ⟨.value x, #[y], ts⟩, ty, pos, aft, none⟩).run P w = .ok (.round l fn tmps assign body) w := by
    simp only [execOp, resolve, ha.eval hx, Deferred.ofValue, invoke]
    simp [ha.eval hy, h1]
  show Oper.uponIn _ _ _ _ _ _ _ ((Oper.semAt none a.eval _).run P w)
  rw [Oper.semAt_none, h3]
  refine ⟨fun q => by simp [Fence.wide] at q, h2.mono fun e w' ⟨he, hR⟩ => ?_⟩
  subst he
  exact hk w' hR _ (ha.put (some d) u hd)

/-! ### the record and its block as things -/
def loopT (l : Nat) (rec : Loop) : Th where
  at_ := fun w F => (F = fun k => k = l) ∧ w.heap[l]? = some (.loop rec)
  fr := fun a ⟨e, h⟩ => ⟨e, by rw [a.blk _ (by rw [e])]; exact h⟩
  lt := fun {w F} ⟨e, h⟩ k hk => by
    rw [e] at hk; subst hk
    rcases Nat.lt_or_ge k w.heap.size with g | g
    · exact g
    · rw [Array.getElem?_eq_none g] at h; cases h
def deferT (b : Nat) : Th where
  at_ := fun w F => (F = fun k => k = b) ∧ w.heap[b]? = some (.deferred (some []))
  fr := fun a ⟨e, h⟩ => ⟨e, by rw [a.blk _ (by rw [e])]; exact h⟩
  lt := fun {w F} ⟨e, h⟩ k hk => by
    rw [e] at hk; subst hk
    rcases Nat.lt_or_ge k w.heap.size with g | g
    · exact g
    · rw [Array.getElem?_eq_none g] at h; cases h
variable {As : List Th}
theorem Sat.loop (h : Sat w As) (i : Nat) {rec : Loop} (hi : As[i]? = some (loopT l rec)) : w.heap[l]? = some (.loop rec) := by
  obtain ⟨F, _, h⟩ := h.get i hi; exact h
theorem Sat.loop_put (h : Sat w As) (i : Nat) {rec rec' : Loop} (hi : As[i]? = some (loopT l rec)) : Sat (w.putObj l (.loop rec')) (As.set i (loopT l rec')) := by
  have hl := h.loop i hi
  have hlt : l < w.heap.size := by
    rcases Nat.lt_or_ge l w.heap.size with g | g
    · exact g
    · rw [Array.getElem?_eq_none g] at hl; cases hl
  refine h.step i hi fun F ⟨e, _⟩ => ⟨F, ⟨e, World.putObj_heap_same hlt⟩, fun k hk => .inl hk, rfl, rfl, rfl, fun k hk => World.putObj_heap_other fun q => hk.2 (by rw [e]; exact q)⟩
theorem Sat.enter_loop (h : Sat w As) (rec : Loop) : Sat ((w.alloc (.deferred (some []))).alloc (.loop rec)) (loopT (w.heap.size + 1) rec :: deferT w.heap.size :: As) := by
  have h1 : Sat (w.alloc (.deferred (some []))) (deferT w.heap.size :: As) := h.new ((Only.refl _ _).alloc _) (A := deferT w.heap.size) (F' := fun k => k = w.heap.size) ⟨rfl, heap_alloc_new w _⟩ (fun k hk => by rw [hk]; exact Nat.le_refl _)
  have h2 := h1.new (w' := (w.alloc (.deferred (some []))).alloc (.loop rec)) ((Only.refl _ _).alloc _) (A := loopT (w.heap.size + 1) rec) (F' := fun k => k = w.heap.size + 1) ⟨rfl, by have := heap_alloc_new (w.alloc (.deferred (some []))) (.loop rec); simpa using this⟩ (fun k hk => by rw [hk]; simp)
  exact h2
/-- whatever the rounds keep: a round by each key -/
def YieldsT {κ : Type} (P : Program) (l : Nat) (kv : κ → Value) (ok : List κ → κ → Prop) (J : List κ → Th) : Prop :=
  ∀ (ks : List κ) (k : κ) (R : Th) (w : World), ok ks k → Sat w [J ks, R] → YieldAt Fence.wide 0 P l #[kv k] w (fun e w' => e = .returned (.bool true) ∧ Sat w' [J (ks ++ [k]), R])
structure Came {κ : Type} (g : κ → Option Value) (ks : List κ) : Prop where
  nodup : ks.Nodup
  has : ∀ k ∈ ks, g k ≠ none
def okC {κ : Type} (g : κ → Option Value) (ks : List κ) (k : κ) : Prop := Came g (ks ++ [k])
structure CSt {κ : Type} (g : κ → Option Value) (dn : κ → Prop) (ks : List κ) : Prop where
  came : Came g ks
  mem : ∀ k, k ∈ ks ↔ dn k
theorem CSt.start {κ : Type} (g : κ → Option Value) : CSt g (fun _ => False) [] := ⟨⟨List.nodup_nil, by simp⟩, by simp⟩
theorem CSt.ok {κ : Type} {g : κ → Option Value} {dn : κ → Prop} {ks : List κ} {k : κ} {v : Value} (h : CSt g dn ks) (hn : ¬ dn k) (hg : g k = some v) : okC g ks k := by
  refine ⟨List.nodup_append.2 ⟨h.came.nodup, by simp, ?_⟩, fun j hj => ?_⟩
  · rintro a ha b hb rfl
    simp at hb; subst hb
    exact hn ((h.mem _).1 ha)
  · rcases List.mem_append.1 hj with hj | hj
    · exact h.came.has j hj
    · simp at hj; subst hj; rw [hg]; simp
theorem CSt.step {κ : Type} {g : κ → Option Value} {dn : κ → Prop} {ks : List κ} {k : κ} {v : Value} (h : CSt g dn ks) (hn : ¬ dn k) (hg : g k = some v) : CSt g (fun j => dn j ∨ j = k) (ks ++ [k]) :=
  ⟨h.ok hn hg, fun j => by rw [List.mem_append, h.mem j]; simp⟩
/-- all keys have come, each once -/
structure AllC {κ : Type} (g : κ → Option Value) (ks : List κ) : Prop where
  nodup : ks.Nodup
  mem : ∀ k, k ∈ ks ↔ g k ≠ none
theorem CSt.all {κ : Type} {g : κ → Option Value} {dn : κ → Prop} {ks : List κ} (h : CSt g dn ks) (hd : ∀ k v, g k = some v → dn k) : AllC g ks :=
  ⟨h.came.nodup, fun k => ⟨h.came.has k, fun hk => by
    cases hq : g k with
    | none => exact absurd hq hk
    | some v => exact (h.mem k).2 (hd k v hq)⟩⟩

/-- the end of a function that holds a range over a function: it reads a variable and returns it; the mark is come to -/
theorem tail_ret {fn : Func} {R : Ending → World → Prop} {a : Act} {id d1 d2 t b D : Nat} {x : Operand} {v : Value} {ty1 ty2 : TypeId} {p1 p2 : String} {f1 f2 : Array Edge} (hsz : a.tmps.size = n) (hget : ∀ t v, eget L t = some v → a.tmps[t]? = some v) (hdef : a.defers = [{ target := .collected D, args := #[] }])
    (hx : look L x = some (ptrV b 0)) (ha : aggB P t = some false) (hc : w.cell? ⟨b, 0, none⟩ = some v) (hD : w.heap[D]? = some (.deferred (some []))) (h1 : Nat.blt d1 n = true) (h2 : Nat.blt d2 n = true) (hres : fn.results = #[.tmp d2])
    (hR : R (.returned v) (w.putObj D (.deferred none))) :
    (Code.seq (.region id #[⟨some d1, .load t x, ty1, p1, f1, none⟩, ⟨some d2, .assign (.tmp d1), ty2, p2, f2, none⟩] false) .ret).wp P (bodyPostM Fence.wide 0 P fn R) a w := by
  have ha0 : Fr n L { tmps := a.tmps, defers := [] } := ⟨hsz, rfl, hget⟩
  have hev : ∀ y, a.eval y = ({ tmps := a.tmps, defers := [] } : Act).eval y := fun y => by cases y <;> rfl
  refine Go.wp_seq (Go.wp_region_lit ?_)
  refine wpList_does (R := fun u w' => u = v ∧ w' = w) rfl ⟨v, w, .inl (ev_load (d := d1) (ty := ty1) (pos := p1) (aft := f1) hx ha hc a.eval fun y u hy => by rw [hev]; exact ha0.eval hy), rfl, rfl⟩ ?_
  rintro v1 w1 ⟨q1, q2⟩
  rw [q1, q2]
  have hd1 : d1 < a.tmps.size := by rw [hsz]; simpa using h1
  have e1 : (a.put (some d1) v).eval (.tmp d1) = v := by simp [Act.put, Act.eval, hd1]
  refine wpList_does (R := fun u w' => u = v ∧ w' = w) rfl ⟨v, w, .inl ?_, rfl, rfl⟩ ?_
  · simp [execOp, e1]
  rintro v2 w2 ⟨q3, q4⟩
  rw [q3, q4]
  show Code.wp P .ret _ _ w
  refine Go.wp_ret ?_
  show LeavesInM Fence.wide 0 P fn _ R _ .returning w
  have hdf : ((a.put (some d1) v).put (some d2) v).defers = [{ target := .collected D, args := #[] }] := by simp [Act.put, hdef]
  rw [hdf]
  refine ⟨by simp, .inl ⟨D, _, rfl, run_takeDeferred hD, ?_⟩⟩
  refine ⟨v, ?_, hR⟩
  have hd2 : d2 < a.tmps.size := by rw [hsz]; simpa using h2
  simp [results, hres, Act.put, hd2]
theorem Sat.defer_put {As : List Th} (h : Sat w As) (i : Nat) {D : Nat} {o : Obj} (hi : As[i]? = some (deferT D)) : w.heap[D]? = some (.deferred (some [])) ∧ Sat (w.putObj D o) (As.eraseIdx i) := by
  have hp := h.pull i hi
  obtain ⟨F, F1, F2, rfl, dj, ⟨e1, h1⟩, h2⟩ := hp
  have hag : Agree F2 w (w.putObj D o) := ⟨rfl, rfl, rfl, fun k hk => World.putObj_heap_other fun q => dj k (by rw [e1]; exact q) hk⟩
  exact ⟨h1, F2, (starL (As.eraseIdx i)).fr hag h2⟩
end
end Go.Proofs.YtgnhfhhmipcgcaaGreatDoor.M
