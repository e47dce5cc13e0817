/- Rules that walk code by its text: what is known of a frame is a list; each operation has a rule. Conditions: each rule's own hypotheses. -/
import Derived.Test.YtcbdclhoekokpaaGreatDoorSl
namespace Go.Proofs.YtcbdclhoekokpaaGreatDoor.M
open Go.RowKit

abbrev Env := List (Nat × Value)
def eget : Env → Nat → Option Value
  | [], _ => none
  | (d, v) :: L, t => bif Nat.beq d t then some v else eget L t
def look (L : Env) : Operand → Option Value
  | .tmp t => eget L t
  | .const v => some v
  | .global g => some (.pointer (some ⟨g, 0, none⟩))
  | .func f => some (.func (.func f) #[] #[])
def looks (L : Env) : List Operand → Option (List Value)
  | [] => some []
  | x :: xs => match look L x, looks L xs with | some v, some vs => some (v :: vs) | _, _ => none

structure Fr (n : Nat) (L : Env) (a : Act) : Prop where
  size : a.tmps.size = n
  defers : a.defers = []
  get : ∀ t v, eget L t = some v → a.tmps[t]? = some v

def pd (d : Option Nat) (v : Value) (L : Env) : Env := match d with | some d => (d, v) :: L | none => L

theorem Fr.eval {n : Nat} {L : Env} {a : Act} (h : Fr n L a) {x : Operand} {v : Value} (hx : look L x = some v) : a.eval x = v := by
  cases x with
  | tmp t => have := h.get t v hx; simp [Act.eval, this]
  | const u => simpa [look, Act.eval] using hx
  | global g => simpa [look, Act.eval] using hx
  | func f => simpa [look, Act.eval] using hx

theorem Fr.evals {n : Nat} {L : Env} {a : Act} (h : Fr n L a) : ∀ {xs : List Operand} {vs : List Value}, looks L xs = some vs → xs.map a.eval = vs
  | [], vs, hx => by simp [looks] at hx; subst hx; rfl
  | x :: xs, vs, hx => by
    simp only [looks] at hx
    cases h1 : look L x with
    | none => simp [h1] at hx
    | some v =>
      cases h2 : looks L xs with
      | none => simp [h1, h2] at hx
      | some us => simp [h1, h2] at hx; subst hx; simp [h.eval h1, h.evals h2]

theorem Fr.put {n : Nat} {L : Env} {a : Act} (h : Fr n L a) (d : Option Nat) (v : Value) (hd : (match d with | some d => Nat.blt d n | none => true) = true) : Fr n (pd d v L) (a.put d v) := by
  cases d with
  | none => exact h
  | some d =>
    have hlt : d < n := by simpa [Nat.blt_eq] using hd
    refine ⟨by simp [Act.put, h.size], by simp [Act.put, h.defers], fun t u ht => ?_⟩
    simp only [pd, eget] at ht
    simp only [Act.put]
    rw [Array.getElem?_setIfInBounds]
    by_cases e : d = t
    · subst e
      rw [show Nat.beq d d = true from Nat.beq_refl d] at ht
      simp at ht
      rw [if_pos rfl, if_pos (by rw [h.size]; exact hlt), ht]
    · have : Nat.beq d t = false := by
        cases hq : Nat.beq d t with
        | false => rfl
        | true => exact absurd (Nat.eq_of_beq_eq_true hq) e
      rw [this] at ht
      rw [if_neg e]
      exact h.get t u ht

/-- L' says no more than L -/
def SubE (L : Env) : Env → Prop
  | [] => True
  | (t, v) :: L' => eget L t = some v ∧ SubE L L'
theorem SubE.get {L : Env} : ∀ {L' : Env}, SubE L L' → ∀ t v, eget L' t = some v → eget L t = some v
  | [], _, t, v, h => by simp [eget] at h
  | (d, u) :: L', ⟨h1, h2⟩, t, v, h => by
    simp only [eget] at h
    cases hq : Nat.beq d t with
    | true => rw [hq] at h; simp at h; subst h; rw [← Nat.eq_of_beq_eq_true hq]; exact h1
    | false => rw [hq] at h; exact h2.get t v h
theorem Fr.sub {n : Nat} {L L' : Env} {a : Act} (h : Fr n L a) (hs : SubE L L') : Fr n L' a := ⟨h.size, h.defers, fun t v ht => h.get t v (hs.get t v ht)⟩

@[irreducible] def wl (P : Program) (n : Nat) (ops : Array Oper) (Q : Exit → Act → World → Prop) (rest : List Oper) (L : Env) (w : World) : Prop := ∀ a, Fr n L a → wpList P ops Q rest a w
@[irreducible] def wc (P : Program) (n : Nat) (c : Code) (Q : Exit → Act → World → Prop) (L : Env) (w : World) : Prop := ∀ a, Fr n L a → c.wp P Q a w
@[irreducible] def qs (n : Nat) (Q : Exit → Act → World → Prop) (e : Exit) (L : Env) (w : World) : Prop := ∀ a, Fr n L a → Q e a w

section
variable {P : Program} {n : Nat} {ops : Array Oper} {Q : Exit → Act → World → Prop} {rest : List Oper} {L : Env} {w : World} {d : Option Nat} {ty : TypeId} {pos : String} {aft : Array Edge}

theorem wl_sub {L' : Env} (hs : SubE L L') (h : wl P n ops Q rest L' w) : wl P n ops Q rest L w := by unfold wl at *; exact fun a ha => h a (ha.sub hs)
theorem wc_sub {c : Code} {L' : Env} (hs : SubE L L') (h : wc P n c Q L' w) : wc P n c Q L w := by unfold wc at *; exact fun a ha => h a (ha.sub hs)
theorem qs_sub {e : Exit} {L' : Env} (hs : SubE L L') (h : qs n Q e L' w) : qs n Q e L w := by unfold qs at *; exact fun a ha => h a (ha.sub hs)

/-! ### code -/
theorem wc_seq {x y : Code} (h : wc P n x (Exit.then (y.wp P Q) Q) L w) : wc P n (.seq x y) Q L w := by
  unfold wc at *; exact fun a ha => Go.wp_seq (h a ha)
theorem wc_region {id : Nat} {l : List Oper} (h : wl P n l.toArray Q l L w) : wc P n (.region id l.toArray false) Q L w := by
  unfold wc; unfold wl at h; exact fun a ha => Go.wp_region_lit (h a ha)
theorem wc_block {id : Nat} {c : Code} (h : wc P n c (Exit.inBlock id Q) L w) : wc P n (.block id c) Q L w := by
  unfold wc at *; exact fun a ha => Go.wp_block (h a ha)
theorem wc_skip (h : qs n Q .normal L w) : wc P n .skip Q L w := by unfold wc; unfold qs at h; exact fun a ha => Go.wp_skip (h a ha)
theorem wc_exit {id : Nat} (h : qs n Q (.exit id) L w) : wc P n (.exit id) Q L w := by unfold wc; unfold qs at h; exact fun a ha => Go.wp_exit (h a ha)
theorem wc_ret (h : qs n Q .ret L w) : wc P n .ret Q L w := by unfold wc; unfold qs at h; exact fun a ha => Go.wp_ret (h a ha)
theorem wc_cond {c : Operand} {x y : Code} {t : Bool} (hc : look L c = some (.bool t)) (h1 : t = true → wc P n x Q L w) (h2 : t = false → wc P n y Q L w) : wc P n (.cond c x y) Q L w := by
  unfold wc at *; exact fun a ha => Go.wp_cond_split (ha.eval hc) (fun e => h1 e a ha) (fun e => h2 e a ha)
theorem wc_condD {c : Operand} {x y : Code} {p : Prop} {dp : Decidable p} (hc : look L c = some (.bool (@decide p dp))) (h1 : p → wc P n x Q L w) (h2 : ¬ p → wc P n y Q L w) : wc P n (.cond c x y) Q L w :=
  wc_cond hc (fun e => h1 (of_decide_eq_true e)) (fun e => h2 (of_decide_eq_false e))
theorem wc_condT {c : Operand} {x y : Code} (hc : look L c = some (.bool true)) (h1 : wc P n x Q L w) : wc P n (.cond c x y) Q L w := wc_cond hc (fun _ => h1) (fun e => by cases e)
theorem wc_condF {c : Operand} {x y : Code} (hc : look L c = some (.bool false)) (h1 : wc P n y Q L w) : wc P n (.cond c x y) Q L w := wc_cond hc (fun e => by cases e) (fun _ => h1)

theorem wc_condKT {c : Operand} {x y : Code} {g : Bool} (hc : look L c = some (.bool g)) (hg : g = true) (h1 : wc P n x Q L w) : wc P n (.cond c x y) Q L w := wc_cond hc (fun _ => h1) (fun e => by rw [hg] at e; cases e)
theorem wc_condKF {c : Operand} {x y : Code} {g : Bool} (hc : look L c = some (.bool g)) (hg : g = false) (h1 : wc P n y Q L w) : wc P n (.cond c x y) Q L w := wc_cond hc (fun e => by rw [hg] at e; cases e) (fun _ => h1)
theorem SubE.nil : SubE L [] := trivial
theorem SubE.cons {t : Nat} {v : Value} {L' : Env} (h : eget L t = some v) (hs : SubE L L') : SubE L ((t, v) :: L') := ⟨h, hs⟩
theorem wl_split (t : Nat) {g : Bool} (_ht : eget L t = some (.bool g)) (h1 : g = true → wl P n ops Q rest L w) (h2 : g = false → wl P n ops Q rest L w) : wl P n ops Q rest L w := by
  cases g with
  | true => exact h1 rfl
  | false => exact h2 rfl
theorem wl_splitD (t : Nat) {p : Prop} {dp : Decidable p} (_ht : eget L t = some (.bool (@decide p dp))) (h1 : p → wl P n ops Q rest L w) (h2 : ¬ p → wl P n ops Q rest L w) : wl P n ops Q rest L w := by
  by_cases h : p
  · exact h1 h
  · exact h2 h
theorem wl_nil (h : qs n Q .normal L w) : wl P n ops Q [] L w := by unfold wl; unfold qs at h; exact fun a ha => h a ha

theorem qs_seq {y : Code} (h : wc P n y Q L w) : qs n (Exit.then (y.wp P Q) Q) .normal L w := by unfold qs; unfold wc at h; exact fun a ha => h a ha
theorem qs_then_exit {K : Act → World → Prop} {id : Nat} (h : qs n Q (.exit id) L w) : qs n (Exit.then K Q) (.exit id) L w := by unfold qs at *; exact fun a ha => h a ha
theorem qs_then_ret {K : Act → World → Prop} (h : qs n Q .ret L w) : qs n (Exit.then K Q) .ret L w := by unfold qs at *; exact fun a ha => h a ha
theorem qs_block_normal {id : Nat} (h : qs n Q .normal L w) : qs n (Exit.inBlock id Q) .normal L w := by unfold qs at *; exact fun a ha => h a ha
theorem qs_block_ret {id : Nat} (h : qs n Q .ret L w) : qs n (Exit.inBlock id Q) .ret L w := by unfold qs at *; exact fun a ha => h a ha
theorem qs_block_exit {id : Nat} (h : qs n Q .normal L w) : qs n (Exit.inBlock id Q) (.exit id) L w := by
  unfold qs at *; intro a ha; simp only [Exit.inBlock, if_true]; exact h a ha
theorem qs_block_pass {id id' : Nat} (hne : Nat.beq id' id = false) (h : qs n Q (.exit id') L w) : qs n (Exit.inBlock id Q) (.exit id') L w := by
  unfold qs at *; intro a ha; simp only [Exit.inBlock]; rw [if_neg (fun e => by subst e; rw [Nat.beq_refl] at hne; cases hne)]; exact h a ha

/-- a state in the middle -/
theorem wc_mid {x y : Code} (Mid : Env → World → Prop) (h1 : wc P n x (Exit.then (fun a w' => ∃ L', Fr n L' a ∧ Mid L' w') Q) L w) (h2 : ∀ L' w', Mid L' w' → wc P n y Q L' w') : wc P n (.seq x y) Q L w := by
  unfold wc at *
  intro a ha
  refine Go.wp_seq (Go.wp_mono (h1 a ha) fun e a' w' hq => ?_)
  cases e with
  | normal => obtain ⟨L', hf, hm⟩ := hq; exact h2 L' w' hm a' hf
  | exit id => exact hq
  | goto l => exact hq
  | ret => exact hq
  | panic ch => exact hq
  | outgrown => exact hq
theorem qs_mid {Mid : Env → World → Prop} {L' : Env} (hs : SubE L L') (h : Mid L' w) : qs n (Exit.then (fun a w' => ∃ L', Fr n L' a ∧ Mid L' w') Q) .normal L w := by
  unfold qs; exact fun a ha => ⟨L', ha.sub hs, h⟩

theorem least_k {p : Nat → Prop} (h : ∃ i, p i) : ∃ i, p i ∧ ∀ j, j < i → ¬ p j := by
  obtain ⟨i, hi⟩ := h
  induction i using Nat.strongRecOn with
  | _ i ih =>
    by_cases hex : ∃ j, j < i ∧ p j
    · obtain ⟨j, hj, hp⟩ := hex; exact ih j hj hp
    · exact ⟨i, hi, fun j hj hp => hex ⟨j, hj, hp⟩⟩

theorem wc_loop {c : Code} (Inv : Nat → Env → World → Prop) {L0 : Env} (k0 : Nat) (hs : SubE L L0) (h0 : Inv k0 L0 w)
    (round : ∀ k L' w', Inv k L' w' → wc P n c (Exit.then (fun a w1 => ∃ k1 L1, k1 < k ∧ Fr n L1 a ∧ Inv k1 L1 w1) Q) L' w') : wc P n (.loop c) Q L w := by
  unfold wc at *
  intro a ha
  have hμ : ∃ μ : Act → World → Nat, ∀ a w, (∃ k L', Fr n L' a ∧ Inv k L' w) → (∃ L', Fr n L' a ∧ Inv (μ a w) L' w) ∧ ∀ k, (∃ L', Fr n L' a ∧ Inv k L' w) → μ a w ≤ k := by
    have hex : ∀ (a : Act) (w : World), ∃ m : Nat, (∃ k L', Fr n L' a ∧ Inv k L' w) → (∃ L', Fr n L' a ∧ Inv m L' w) ∧ ∀ k, (∃ L', Fr n L' a ∧ Inv k L' w) → m ≤ k := by
      intro a w
      by_cases h : ∃ k L', Fr n L' a ∧ Inv k L' w
      · obtain ⟨m, hm, hl⟩ := least_k (p := fun k => ∃ L', Fr n L' a ∧ Inv k L' w) h
        exact ⟨m, fun _ => ⟨hm, fun k hk => Nat.le_of_not_lt fun q => hl k q hk⟩⟩
      · exact ⟨0, fun q => absurd q h⟩
    exact ⟨fun a w => (hex a w).choose, fun a w h => (hex a w).choose_spec h⟩
  obtain ⟨μ, hμ⟩ := hμ
  refine Go.wp_loop (fun a w => ∃ k L', Fr n L' a ∧ Inv k L' w) μ ⟨k0, L0, ha.sub hs, h0⟩ fun a w hI => ?_
  obtain ⟨⟨L', hf, hi⟩, _⟩ := hμ a w hI
  refine Go.wp_mono (round _ L' w hi a hf) fun e a1 w1 hq => ?_
  cases e with
  | normal =>
    obtain ⟨k1, L1, hlt, hf1, hi1⟩ := hq
    exact ⟨⟨k1, L1, hf1, hi1⟩, Nat.lt_of_le_of_lt ((hμ a1 w1 ⟨k1, L1, hf1, hi1⟩).2 k1 ⟨L1, hf1, hi1⟩) hlt⟩
  | exit id => exact hq
  | goto l => exact hq
  | ret => exact hq
  | panic ch => exact hq
  | outgrown => exact hq
theorem qs_round {Inv : Nat → Env → World → Prop} {k k1 : Nat} {L1 : Env} (hs : SubE L L1) (hlt : k1 < k) (h : Inv k1 L1 w) :
    qs n (Exit.then (fun a w1 => ∃ k1 L1, k1 < k ∧ Fr n L1 a ∧ Inv k1 L1 w1) Q) .normal L w := by
  unfold qs; exact fun a ha => ⟨k1, L1, hlt, ha.sub hs, h⟩

/-! ### beginning and end of a function -/
def argsE : Nat → List Value → Env
  | _, [] => []
  | i, v :: vs => (i, v) :: argsE (i + 1) vs

theorem argsE_get : ∀ (vs : List Value) (i t : Nat) (v : Value), eget (argsE i vs) t = some v → i ≤ t ∧ vs[t - i]? = some v
  | [], i, t, v, h => by simp [argsE, eget] at h
  | u :: vs, i, t, v, h => by
    simp only [argsE, eget] at h
    cases hq : Nat.beq i t with
    | true => rw [hq] at h; simp at h; subst h; have := Nat.eq_of_beq_eq_true hq; subst this; simp
    | false =>
      rw [hq] at h
      obtain ⟨h1, h2⟩ := argsE_get vs (i + 1) t v h
      refine ⟨by omega, ?_⟩
      rw [show t - i = (t - (i + 1)) + 1 by omega]
      simpa using h2

theorem calls_enter {f : FuncId} {fn : Func} {c : Code} {args : List Value} {R : Ending → World → Prop} (hf : P.funcs[f]? = some fn) (hb : fn.body = some c) (hn : fn.ntmps = n) (hl : Nat.ble args.length n = true)
    (h : wc P n c (bodyPost P fn R) (argsE 0 args) w) : Calls P f args.toArray w R := by
  have hle : args.length ≤ n := Nat.le_of_ble_eq_true hl
  unfold wc at h
  refine calls_of_wp hf hb (h _ ⟨by simp [hn]; omega, rfl, fun t v ht => ?_⟩)
  obtain ⟨_, h2⟩ := argsE_get args 0 t v ht
  simp only [Nat.sub_zero] at h2
  have hlt := (List.getElem?_eq_some_iff.1 h2).1
  rw [Array.getElem?_append_left (by simpa using hlt)]
  simpa using h2

theorem fin_of {fn : Func} {R : Ending → World → Prop} {v : Value} {e : Exit} (he : e = .normal ∨ e = .ret) (hr : ∀ a, Fr n L a → (results fn a.tmps).run P w = .ok v w) (h : R (.returned v) w) : qs n (bodyPost P fn R) e L w := by
  unfold qs
  intro a ha
  rcases he with rfl | rfl
  · exact ⟨ha.defers, v, hr a ha, h⟩
  · exact ⟨ha.defers, v, hr a ha, h⟩
theorem fin0 {fn : Func} {R : Ending → World → Prop} {e : Exit} (he : e = .normal ∨ e = .ret) (hf : fn.results = #[]) (h : R (.returned (.tuple #[])) w) : qs n (bodyPost P fn R) e L w :=
  fin_of he (fun a _ => by simp [results, hf]) h
theorem fin1 {fn : Func} {R : Ending → World → Prop} {t : Nat} {v : Value} {e : Exit} (he : e = .normal ∨ e = .ret) (hf : fn.results = #[.tmp t]) (hv : eget L t = some v) (h : R (.returned v) w) : qs n (bodyPost P fn R) e L w :=
  fin_of he (fun a ha => by have := ha.get t v hv; simp [results, hf, this]) h
theorem fin2 {fn : Func} {R : Ending → World → Prop} {t u : Nat} {v x : Value} {e : Exit} (he : e = .normal ∨ e = .ret) (hf : fn.results = #[.tmp t, .tmp u]) (hv : eget L t = some v) (hx : eget L u = some x) (h : R (.returned (.tuple #[v, x])) w) : qs n (bodyPost P fn R) e L w :=
  fin_of he (fun a ha => by have := ha.get t v hv; have := ha.get u x hx; simp [results, hf, *]) h
theorem fin3 {fn : Func} {R : Ending → World → Prop} {t u s : Nat} {v x y : Value} {e : Exit} (he : e = .normal ∨ e = .ret) (hf : fn.results = #[.tmp t, .tmp u, .tmp s]) (hv : eget L t = some v) (hx : eget L u = some x) (hy : eget L s = some y) (h : R (.returned (.tuple #[v, x, y])) w) : qs n (bodyPost P fn R) e L w :=
  fin_of he (fun a ha => by have := ha.get t v hv; have := ha.get u x hx; have := ha.get s y hy; simp [results, hf, *]) h

/-- a call returns, and R holds -/
def Ret (R : Value → World → Prop) (e : Ending) (w' : World) : Prop := ∃ v, e = .returned v ∧ R v w'
theorem Ret.mono {R R' : Value → World → Prop} {e : Ending} {w' : World} (h : Ret R e w') (hr : ∀ v w', R v w' → R' v w') : Ret R' e w' := let ⟨v, h1, h2⟩ := h; ⟨v, h1, hr _ _ h2⟩

/-! ### operations -/
theorem wl_does {o : Oper} {R : Value → World → Prop} (hg : o.guard = none) (hd : (match o.dst with | some d => Nat.blt d n | none => true) = true) (h : ∀ a, Fr n L a → does P o a w R)
    (hk : ∀ v w', R v w' → wl P n ops Q rest (pd o.dst v L) w') : wl P n ops Q (o :: rest) L w := by
  unfold wl at *
  intro a ha
  exact wpList_does hg (h a ha) (fun v w' hr => hk v w' hr _ (ha.put _ v hd))

/-- the operation gives v and leaves the world as it is -/
def Ev (P : Program) (L : Env) (w : World) (o : Oper) (v : Value) : Prop := ∀ ρ : Operand → Value, (∀ x u, look L x = some u → ρ x = u) → (execOp ρ o).run P w = .ok (.value v) w
theorem wl_val {d : Nat} {op : Op} {v : Value} (hd : Nat.blt d n = true) (h : Ev P L w ⟨some d, op, ty, pos, aft, none⟩ v)
    (hk : wl P n ops Q rest ((d, v) :: L) w) : wl P n ops Q (⟨some d, op, ty, pos, aft, none⟩ :: rest) L w :=
  wl_does rfl hd (R := fun u w' => u = v ∧ w' = w) (fun a ha => ⟨v, w, .inl (h a.eval fun x u hx => ha.eval hx), rfl, rfl⟩) (fun u w' ⟨e1, e2⟩ => by subst e1 e2; exact hk)

/-- a guarded operation that is wanted -/
theorem wl_guard {o : Op} {j t : Nat} {want g : Bool} (hj : (ops[j]?).bind (·.dst) = some t) (ht : eget L t = some (.bool g)) (hg : g = want) (h : wl P n ops Q (⟨d, o, ty, pos, aft, none⟩ :: rest) L w) : wl P n ops Q (⟨d, o, ty, pos, aft, some (j, want)⟩ :: rest) L w := by
  unfold wl at *
  intro a ha
  have := h a ha
  have hw : Region.wanted ⟨d, o, ty, pos, aft, some (j, want)⟩ (yielded ops a.tmps) = true := by
    have := ha.get t _ ht
    simp [Region.wanted, yielded, hj, this, hg]
  unfold wpList at this ⊢
  rw [if_pos hw]
  rw [if_pos (by simp [Region.wanted])] at this
  exact this
theorem wl_unwanted {o : Op} {j t : Nat} {want g : Bool} (hj : (ops[j]?).bind (·.dst) = some t) (ht : eget L t = some (.bool g)) (hg : g = !want) (hd : (match d with | some d => Nat.blt d n | none => true) = true) (h : wl P n ops Q rest (pd d undef L) w) : wl P n ops Q (⟨d, o, ty, pos, aft, some (j, want)⟩ :: rest) L w := by
  unfold wl at *
  intro a ha
  have hw : Region.wanted ⟨d, o, ty, pos, aft, some (j, want)⟩ (yielded ops a.tmps) = false := by
    have := ha.get t _ ht
    simp [Region.wanted, yielded, hj, this, hg]
  unfold wpList
  rw [if_neg (by rw [hw]; simp)]
  exact h _ (ha.put d undef hd)
/-- an operation behind a guard that has yielded nothing is not done either -/
theorem wl_unguarded {o : Op} {j t : Nat} {want : Bool} (hj : (ops[j]?).bind (·.dst) = some t) (ht : eget L t = some undef) (hd : (match d with | some d => Nat.blt d n | none => true) = true) (h : wl P n ops Q rest (pd d undef L) w) : wl P n ops Q (⟨d, o, ty, pos, aft, some (j, want)⟩ :: rest) L w := by
  unfold wl at *
  intro a ha
  have hw : Region.wanted ⟨d, o, ty, pos, aft, some (j, want)⟩ (yielded ops a.tmps) = false := by
    have := ha.get t _ ht
    simp [Region.wanted, yielded, hj, this, undef]
  unfold wpList
  rw [if_neg (by rw [hw]; simp)]
  exact h _ (ha.put d undef hd)

theorem wpList_append {xs ys : List Oper} : ∀ {a : Act} {w : World}, wpList P ops (fun e a' w' => match e with | .normal => wpList P ops Q ys a' w' | _ => Q e a' w') xs a w → wpList P ops Q (xs ++ ys) a w := by
  induction xs with
  | nil => intro a w h; exact h
  | cons o xs ih =>
    intro a w h
    simp only [List.cons_append]
    unfold wpList at h ⊢
    split
    · rename_i hw
      rw [if_pos hw] at h
      rcases h with h | ⟨h1, a0, w0, h2⟩
      · refine .inl ?_
        have h3 := Oper.wp_mono (K' := wpList P ops Q (xs ++ ys)) (fun a' w' hk => ih hk) h
        unfold Oper.wp at h3 ⊢
        generalize (execOp a.eval o).run P w = r at h3 ⊢
        cases r with
        | ok m w' =>
          cases m <;> simp only [Oper.upon] at h3 ⊢ <;>
            first
              | exact h3
              | exact Calls.mono h3 (fun e w'' he => by cases e <;> first | exact he | (obtain ⟨a1, w1, hq⟩ := he; exact ⟨a1, w1, hq⟩))
        | halt x w' => cases x <;> simp only [Oper.upon] at h3 ⊢ <;> exact h3
      · exact .inr ⟨h1, a0, w0, h2⟩
    · rename_i hw
      rw [if_neg hw] at h
      exact ih h

theorem wpList_mono {Q' : Exit → Act → World → Prop} (hq : ∀ e a w, Q e a w → Q' e a w) {xs : List Oper} : ∀ {a : Act} {w : World}, wpList P ops Q xs a w → wpList P ops Q' xs a w := by
  induction xs with
  | nil => intro a w h; exact hq _ _ _ h
  | cons o xs ih =>
    intro a w h
    unfold wpList at h ⊢
    split
    · rename_i hw
      rw [if_pos hw] at h
      rcases h with h | ⟨h1, a0, w0, h2⟩
      · refine .inl ?_
        have h3 := Oper.wp_mono (K' := wpList P ops Q' xs) (fun a' w' hk => ih hk) h
        unfold Oper.wp at h3 ⊢
        generalize (execOp a.eval o).run P w = r at h3 ⊢
        cases r with
        | ok m w' =>
          cases m <;> simp only [Oper.upon] at h3 ⊢ <;>
            first
              | exact h3
              | exact Calls.mono h3 (fun e w'' he => by cases e <;> first | exact he | exact hq _ _ _ he | (obtain ⟨a1, w1, hq1⟩ := he; exact ⟨a1, w1, hq _ _ _ hq1⟩))
        | halt x w' => cases x <;> simp only [Oper.upon] at h3 ⊢ <;> exact hq _ _ _ h3
      · exact .inr ⟨h1, a0, w0, hq _ _ _ h2⟩
    · rename_i hw
      rw [if_neg hw] at h
      exact ih h

/-- the first operations give slot d the value v and leave the world as it is, whichever way they go -/
def Gives (P : Program) (n : Nat) (ops : Array Oper) (xs : List Oper) (L : Env) (w : World) (d : Nat) (v : Value) : Prop := wl P n ops (fun e a w' => e = .normal ∧ w' = w ∧ Fr n ((d, v) :: L) a) xs L w

theorem wl_join {xs : List Oper} {d : Nat} (k : Nat) (v : Value) (h1 : Gives P n ops (xs.take k) L w d v) (h2 : wl P n ops Q (xs.drop k) ((d, v) :: L) w) : wl P n ops Q xs L w := by
  unfold Gives wl at h1
  unfold wl at *
  intro a ha
  rw [← List.take_append_drop k xs]
  refine wpList_append ?_
  refine wpList_mono (fun e a' w' hq => ?_) (h1 a ha)
  obtain ⟨rfl, rfl, hf⟩ := hq
  exact h2 a' hf

theorem gives_end {d : Nat} {v : Value} {L1 : Env} (h : ∀ a, Fr n L1 a → Fr n ((d, v) :: L) a) : wl P n ops (fun e a w' => e = .normal ∧ w' = w ∧ Fr n ((d, v) :: L) a) [] L1 w := by
  refine wl_nil ?_
  unfold qs
  exact fun a ha => ⟨rfl, rfl, h a ha⟩
end
end Go.Proofs.YtcbdclhoekokpaaGreatDoor.M
