/- A range over a function, as things: the loop's record, a round, the statement. Conditions: each rule's own hypotheses. -/
import Derived.Test.YtkaikhcpcbjkcaaGreatDoorWm
import Derived.RangeFuncIn
import Derived.RangeFuncRecord
import Derived.RangeFuncLeaves
import Derived.RangeFuncSeq
import Derived.TacticsIn
import Derived.Test.YtkaikhcpcbjkcaaGreatDoorDr
import Derived.Test.YtkaikhcpcbjkcaaGreatDoorMap
namespace Go.Proofs.YtkaikhcpcbjkcaaGreatDoor.M
open Go.RowKit
section
variable {P : Program} {n m l : Nat} {ops : Array Oper} {Q : Exit → Act → World → Prop} {L : Env} {w : World}
abbrev RF (l : Nat) : Fence := Fence.wide.inRound l
theorem callsIn_round {f : FuncId} {args : Array Value} {R : Ending → World → Prop} (h : Calls P f args w R) : CallsIn (RF l) m P f args w R := (callsIn_wide (n := m)).2 h
theorem rowsIn_round {row : String} {args : Array Value} {R : Value → World → Prop} (h : Rows P row args w R) : RowsIn (RF l) m P row args w R := fun c cs _ => by
  obtain ⟨v, w', r, s⟩ := h c cs
  exact ⟨v, w', r, stepsIn_wide.2 s⟩
theorem uponIn_of_upon {o : Oper} {a : Act} {next : Act → World → Prop} {r : Result Next} (h : o.upon P a next Q r) : o.uponIn (RF l) m P a next Q r := by
  unfold Oper.upon at h
  split at h
  · exact h
  · exact h
  · exact h
  · exact ⟨fun q => by simp [RF, Fence.wide, Fence.inRound] at q, callsIn_round h⟩
  · exact ⟨fun q => by simp [RF, Fence.wide, Fence.inRound] at q, rowsIn_round h⟩
  · exact h
  · exact h.elim
def noDefer (rest : List Oper) : Prop := ∀ o ∈ rest, ∀ c, o.op ≠ .defer c
theorem listIn_of (hQ : ¬ LetsOut Q) : ∀ (rest : List Oper) (a : Act) (w : World), noDefer rest → wpList P ops Q rest a w → wpListIn (RF l) m P ops Q rest a w
  | [], _, _, _, h => h
  | o :: rest, a, w, hd, h => by
    unfold wpList at h
    unfold wpListIn
    have hr : noDefer rest := fun q hq => hd q (List.mem_cons_of_mem _ hq)
    split
    · rename_i hw
      rw [if_pos hw] at h
      rcases h with h | h
      · refine ⟨fun _ _ => trivial, ?_⟩
        rw [Oper.semAt_eq _ _ _ (hd o (by simp))]
        have h2 := uponIn_of_upon (l := l) (m := m) h
        revert h2
        generalize (execOp a.eval o).run P w = r
        intro h2
        unfold Oper.uponIn at h2 ⊢
        split at h2
        · exact listIn_of hQ rest _ _ hr h2
        · exact listIn_of hQ rest _ _ hr h2
        · exact listIn_of hQ rest _ _ hr h2
        · refine ⟨h2.1, h2.2.mono fun e w' he => ?_⟩
          cases e with
          | returned v => exact listIn_of hQ rest _ _ hr he
          | panicked c => exact he
          | outgrown => exact he
        · exact ⟨h2.1, h2.2.mono fun v w' he => listIn_of hQ rest _ _ hr he⟩
        · refine ⟨h2.1, h2.2.mono fun e w' he => ?_⟩
          cases e with
          | returned v => exact listIn_of hQ rest _ _ hr he
          | panicked c => exact he
          | outgrown => exact he
        · exact h2
        · exact h2.elim
      · exact absurd h.2 hQ
    · rename_i hw
      rw [if_neg hw] at h
      exact ⟨fun _ _ => trivial, listIn_of hQ rest _ _ hr h⟩
/-- a function that holds one -/
theorem calls_enterM {f : FuncId} {fn : Func} {c : Code} {args : List Value} {R : Ending → World → Prop} (hf : P.funcs[f]? = some fn) (hb : fn.body = some c) (hn : fn.ntmps = n) (hl : Nat.ble args.length n = true)
    (h : wc P n c (bodyPostM Fence.wide 0 P fn R) (argsE 0 args) w) : Calls P f args.toArray w R := by
  have hle : args.length ≤ n := Nat.le_of_ble_eq_true hl
  unfold wc at h
  refine callsIn_wide.1 (callsIn_of_wp_marks (F := Fence.wide) (n := 0) hf hb trivial ((wpIn_wide (n := 0)).2 (h _ ⟨by simp [hn]; omega, rfl, fun t v ht => ?_⟩)))
  obtain ⟨_, h2⟩ := argsE_get args 0 t v ht
  simp only [Nat.sub_zero] at h2
  have hlt := (List.getElem?_eq_some_iff.1 h2).1
  rw [Array.getElem?_append_left (by simpa using hlt)]
  simpa using h2
/-! ### an iterator's own walk: a region that calls yield -/
@[irreducible] def wlI (P : Program) (n : Nat) (ops : Array Oper) (Q : Exit → Act → World → Prop) (rest : List Oper) (L : Env) (w : World) : Prop := ∀ a, Fr n L a → wpListIn Fence.wide 0 P ops Q rest a w
theorem wc_regionI {id : Nat} (h : wlI P n ops Q ops.toList L w) : wc P n (.region id ops false) Q L w := by
  unfold wlI at h; unfold wc
  intro a ha
  exact (wpIn_wide (n := 0)).1 (wpIn_region_list (h a ha))
theorem wlI_nil (h : qs n Q .normal L w) : wlI P n ops Q [] L w := by
  unfold wlI; unfold qs at h
  exact h
theorem wlI_val {rest : List Oper} {d : Nat} {op : Op} {v : Value} {ty : TypeId} {pos : String} {aft : Array Edge} (hd : Nat.blt d n = true) (h : Ev P L w ⟨some d, op, ty, pos, aft, none⟩ v) (hk : wlI P n ops Q rest ((d, v) :: L) w) : wlI P n ops Q (⟨some d, op, ty, pos, aft, none⟩ :: rest) L w := by
  unfold wlI at *
  intro a ha
  unfold wpListIn
  rw [if_pos (by simp [Region.wanted])]
  refine ⟨fun _ _ => trivial, ?_⟩
  have h1 := h a.eval (fun x u hx => ha.eval hx)
  show Oper.uponIn _ _ _ _ _ _ _ ((Oper.semAt none a.eval _).run P w)
  rw [Oper.semAt_none, h1]
  exact hk _ (ha.put (some d) v hd)
/-! ### the record and its block as things -/
def loopT (l : Nat) (rec : Loop) : Th where
  at_ := fun w F => (F = fun k => k = l) ∧ w.heap[l]? = some (.loop rec)
  fr := fun a ⟨e, h⟩ => ⟨e, by rw [a.blk _ (by rw [e])]; exact h⟩
  lt := fun {w F} ⟨e, h⟩ k hk => by
    rw [e] at hk; subst hk
    rcases Nat.lt_or_ge k w.heap.size with g | g
    · exact g
    · rw [Array.getElem?_eq_none g] at h; cases h
def deferT (b : Nat) : Th where
  at_ := fun w F => (F = fun k => k = b) ∧ w.heap[b]? = some (.deferred (some []))
  fr := fun a ⟨e, h⟩ => ⟨e, by rw [a.blk _ (by rw [e])]; exact h⟩
  lt := fun {w F} ⟨e, h⟩ k hk => by
    rw [e] at hk; subst hk
    rcases Nat.lt_or_ge k w.heap.size with g | g
    · exact g
    · rw [Array.getElem?_eq_none g] at h; cases h
variable {As : List Th}
theorem Sat.loop (h : Sat w As) (i : Nat) {rec : Loop} (hi : As[i]? = some (loopT l rec)) : w.heap[l]? = some (.loop rec) := by
  obtain ⟨F, _, h⟩ := h.get i hi; exact h
theorem Sat.loop_put (h : Sat w As) (i : Nat) {rec rec' : Loop} (hi : As[i]? = some (loopT l rec)) : Sat (w.putObj l (.loop rec')) (As.set i (loopT l rec')) := by
  have hl := h.loop i hi
  have hlt : l < w.heap.size := by
    rcases Nat.lt_or_ge l w.heap.size with g | g
    · exact g
    · rw [Array.getElem?_eq_none g] at hl; cases hl
  refine h.step i hi fun F ⟨e, _⟩ => ⟨F, ⟨e, World.putObj_heap_same hlt⟩, fun k hk => .inl hk, rfl, rfl, rfl, fun k hk => World.putObj_heap_other fun q => hk.2 (by rw [e]; exact q)⟩
theorem Sat.enter_loop (h : Sat w As) (rec : Loop) : Sat ((w.alloc (.deferred (some []))).alloc (.loop rec)) (loopT (w.heap.size + 1) rec :: deferT w.heap.size :: As) := by
  have h1 : Sat (w.alloc (.deferred (some []))) (deferT w.heap.size :: As) := h.new ((Only.refl _ _).alloc _) (A := deferT w.heap.size) (F' := fun k => k = w.heap.size) ⟨rfl, heap_alloc_new w _⟩ (fun k hk => by rw [hk]; exact Nat.le_refl _)
  have h2 := h1.new (w' := (w.alloc (.deferred (some []))).alloc (.loop rec)) ((Only.refl _ _).alloc _) (A := loopT (w.heap.size + 1) rec) (F' := fun k => k = w.heap.size + 1) ⟨rfl, by have := heap_alloc_new (w.alloc (.deferred (some []))) (.loop rec); simpa using this⟩ (fun k hk => by rw [hk]; simp)
  exact h2
structure Came {κ : Type} (g : κ → Option Value) (ks : List κ) : Prop where
  nodup : ks.Nodup
  has : ∀ k ∈ ks, g k ≠ none
def okC {κ : Type} (g : κ → Option Value) (ks : List κ) (k : κ) : Prop := Came g (ks ++ [k])
structure CSt {κ : Type} (g : κ → Option Value) (dn : κ → Prop) (ks : List κ) : Prop where
  came : Came g ks
  mem : ∀ k, k ∈ ks ↔ dn k
theorem CSt.start {κ : Type} (g : κ → Option Value) : CSt g (fun _ => False) [] := ⟨⟨List.nodup_nil, by simp⟩, by simp⟩
theorem CSt.ok {κ : Type} {g : κ → Option Value} {dn : κ → Prop} {ks : List κ} {k : κ} {v : Value} (h : CSt g dn ks) (hn : ¬ dn k) (hg : g k = some v) : okC g ks k := by
  refine ⟨List.nodup_append.2 ⟨h.came.nodup, by simp, ?_⟩, fun j hj => ?_⟩
  · rintro a ha b hb rfl
    simp at hb; subst hb
    exact hn ((h.mem _).1 ha)
  · rcases List.mem_append.1 hj with hj | hj
    · exact h.came.has j hj
    · simp at hj; subst hj; rw [hg]; simp
theorem CSt.step {κ : Type} {g : κ → Option Value} {dn : κ → Prop} {ks : List κ} {k : κ} {v : Value} (h : CSt g dn ks) (hn : ¬ dn k) (hg : g k = some v) : CSt g (fun j => dn j ∨ j = k) (ks ++ [k]) :=
  ⟨h.ok hn hg, fun j => by rw [List.mem_append, h.mem j]; simp⟩
/-- all keys have come, each once -/
structure AllC {κ : Type} (g : κ → Option Value) (ks : List κ) : Prop where
  nodup : ks.Nodup
  mem : ∀ k, k ∈ ks ↔ g k ≠ none
theorem CSt.all {κ : Type} {g : κ → Option Value} {dn : κ → Prop} {ks : List κ} (h : CSt g dn ks) (hd : ∀ k v, g k = some v → dn k) : AllC g ks :=
  ⟨h.came.nodup, fun k => ⟨h.came.has k, fun hk => by
    cases hq : g k with
    | none => exact absurd hq hk
    | some v => exact (h.mem k).2 (hd k v hq)⟩⟩
theorem Sat.defer_put {As : List Th} (h : Sat w As) (i : Nat) {D : Nat} {o : Obj} (hi : As[i]? = some (deferT D)) : w.heap[D]? = some (.deferred (some [])) ∧ Sat (w.putObj D o) (As.eraseIdx i) := by
  have hp := h.pull i hi
  obtain ⟨F, F1, F2, rfl, dj, ⟨e1, h1⟩, h2⟩ := hp
  have hag : Agree F2 w (w.putObj D o) := ⟨rfl, rfl, rfl, fun k hk => World.putObj_heap_other fun q => dj k (by rw [e1]; exact q) hk⟩
  exact ⟨h1, F2, (starL (As.eraseIdx i)).fr hag h2⟩
end
end Go.Proofs.YtkaikhcpcbjkcaaGreatDoor.M
/- A region that draws its order, where operations that change things may come in more than one order: by cases on which of two comes first. Conditions: the rule's own hypotheses. -/
namespace Go.Proofs.YtkaikhcpcbjkcaaGreatDoor.M
open Go.RowKit
/-- s lists operations as a draw may, from what is listed on -/
def Sch (l : Array Oper) : Array Bool → List Nat → Prop
  | listed, [] => Region.ready .any l listed = []
  | listed, i :: s => i ∈ Region.ready .any l listed ∧ Sch l (listed.setIfInBounds i true) s
theorem ready_eq (ops : Array Oper) (listed : Array Bool) : Region.ready .any ops listed = (List.range ops.size).filter fun i => !listed.getD i true && ((ops[i]?).map (·.after.all fun e => !Region.binds .any e || listed.getD e.on false)).getD false := rfl
theorem getD_true {listed : Array Bool} {i : Nat} (h : (!listed.getD i true) = true) : i < listed.size ∧ listed.getD i false = false := by
  have hi : i < listed.size := by
    rcases Nat.lt_or_ge i listed.size with q | q
    · exact q
    · simp [Array.getD, Nat.not_lt.2 q] at h
  refine ⟨hi, ?_⟩
  simp [Array.getD, hi] at h ⊢
  exact h
theorem ready_lt {l : Array Oper} {listed : Array Bool} {i : Nat} (h : i ∈ Region.ready .any l listed) : i < l.size ∧ i < listed.size ∧ listed.getD i false = false := by
  rw [ready_eq] at h
  simp only [List.mem_filter, List.mem_range, Bool.and_eq_true] at h
  have := getD_true h.2.1
  exact ⟨h.1, this.1, this.2⟩
theorem go_sch (l : Array Oper) : ∀ (fuel t : Nat) (listed : Array Bool), todoN listed l.size ≤ fuel → Sch l listed (Region.linearise.go .any l fuel t listed [])
  | 0, t, listed, h => by
    simp only [Region.linearise.go, List.reverse_nil, Sch]
    cases hr : Region.ready .any l listed with
    | nil => rfl
    | cons i rs =>
      have hm : i ∈ Region.ready .any l listed := by rw [hr]; simp
      obtain ⟨h1, _, h2⟩ := ready_lt hm
      have h3 : i ∈ (List.range l.size).filter fun i => !listed.getD i false := by simp only [List.mem_filter, List.mem_range, h2]; exact ⟨h1, rfl⟩
      have h4 : ((List.range l.size).filter fun i => !listed.getD i false) = [] := List.eq_nil_of_length_eq_zero (by unfold todoN at h; omega)
      rw [h4] at h3; cases h3
  | fuel + 1, t, listed, h => by
    simp only [Region.linearise.go]
    change Sch l listed (match (Region.ready .any l listed)[t % (Region.ready .any l listed).length]? with
      | some i => Region.linearise.go .any l fuel (t / (Region.ready .any l listed).length) (listed.setIfInBounds i true) [i]
      | none => [].reverse)
    cases hi : (Region.ready .any l listed)[t % (Region.ready .any l listed).length]? with
    | none =>
      simp only [List.reverse_nil, Sch]
      cases hr : Region.ready .any l listed with
      | nil => rfl
      | cons x xs =>
        rw [hr] at hi
        have hlt : t % (x :: xs).length < (x :: xs).length := Nat.mod_lt _ (by simp)
        rw [List.getElem?_eq_getElem hlt] at hi; cases hi
    | some i =>
      simp only []
      have hm := List.mem_of_getElem? hi
      obtain ⟨h1, h2, h3⟩ := ready_lt hm
      rw [linearise_go_acc, List.reverse_singleton, List.singleton_append]
      refine ⟨hm, go_sch l fuel _ _ ?_⟩
      have := todoN_set h1 h2 h3
      omega
theorem any_sch {P : Program} {l : Array Oper} {Q : Exit → Act → World → Prop} : ∀ (s : List Nat) (fuel : Nat) (listed : Array Bool) (a : Act) (w : World), wpAny P .any l Q fuel listed a w → Sch l listed s → wpOps P l Q s a w
  | [], 0, _, _, _, h, _ => h.2
  | [], _ + 1, _, _, _, h, hs => h.1 hs
  | i :: s, 0, _, _, _, h, hs => by have := hs.1; rw [h.1] at this; cases this
  | i :: s, fuel + 1, _, _, _, h, hs => by
    rw [wpOps_cons]
    exact wpOp_mono (fun a w hk => any_sch s fuel _ a w hk hs.2) (h.2 i hs.1)
/-- what is done does not ask what stands before it -/
structure AlikeO (l l' : Array Oper) : Prop where
  at_ : ∀ i : Nat, (l[i]?).map (fun (o : Oper) => (o.dst, o.op, o.type, o.pos, o.guard)) = (l'[i]?).map (fun (o : Oper) => (o.dst, o.op, o.type, o.pos, o.guard))
theorem AlikeO.yielded {l l' : Array Oper} (h : AlikeO l l') (tmps : Array Value) : yielded l tmps = yielded l' tmps := by
  funext j
  have := h.at_ j
  unfold Go.yielded
  have e : (l[j]?).bind (·.dst) = (l'[j]?).bind (·.dst) := by
    cases h1 : l[j]? <;> cases h2 : l'[j]? <;> simp [h1, h2] at this ⊢
    exact this.1
  rw [e]
theorem AlikeO.wpOps {P : Program} {Q : Exit → Act → World → Prop} {l l' : Array Oper} (h : AlikeO l l') : ∀ (s : List Nat) (a : Act) (w : World), wpOps P l' Q s a w → wpOps P l Q s a w
  | [], _, _, hh => hh
  | i :: s, a, w, hh => by
    rw [wpOps_cons] at hh ⊢
    have hh2 := wpOp_mono (fun a w => h.wpOps s a w) hh
    have hi := h.at_ i
    unfold wpOp at hh2 ⊢
    cases h1 : l[i]? with
    | none =>
      cases h2 : l'[i]? with
      | none => rw [h2] at hh2; exact hh2
      | some o' => simp [h1, h2] at hi
    | some o =>
      cases h2 : l'[i]? with
      | none => simp [h1, h2] at hi
      | some o' =>
        rw [h2] at hh2
        simp only at hh2 ⊢
        obtain ⟨d, op, ty, pos, aft, g⟩ := o
        obtain ⟨d', op', ty', pos', aft', g'⟩ := o'
        simp [h1, h2] at hi
        obtain ⟨rfl, rfl, rfl, rfl, rfl⟩ := hi
        rw [h.yielded]
        have he : ∀ ρ : Operand → Value, execOp ρ ⟨d, op, ty, pos, aft, g⟩ = execOp ρ ⟨d, op, ty, pos, aft', g⟩ := by intro ρ; cases op <;> rfl
        have hw : Region.wanted ⟨d, op, ty, pos, aft, g⟩ (Go.yielded l' a.tmps) = Region.wanted ⟨d, op, ty, pos, aft', g⟩ (Go.yielded l' a.tmps) := rfl
        rw [hw]
        split
        · rename_i hwt
          rw [if_pos hwt] at hh2
          rcases hh2 with hq | ⟨hq, hl⟩
          · left
            unfold Oper.wp at hq ⊢
            rw [he]
            generalize (execOp a.eval ⟨d, op, ty, pos, aft', g⟩).run P w = r at hq ⊢
            cases r with
            | ok m w' => cases m <;> exact hq
            | halt x w' => cases x <;> exact hq
          · right
            refine ⟨?_, hl⟩
            unfold Oper.asks at hq ⊢
            rw [he]; exact hq
        · rename_i hwt
          rw [if_neg hwt] at hh2
          exact hh2
theorem AlikeO.trans {l l' l2 : Array Oper} (h : AlikeO l l') (g : AlikeO l' l2) : AlikeO l l2 := ⟨fun i => (h.at_ i).trans (g.at_ i)⟩
theorem AlikeO.refl (l : Array Oper) : AlikeO l l := ⟨fun _ => rfl⟩
section
variable {P : Program} {n : Nat} {l0 l : List Oper} {sp : List Nat} {Q : Exit → Act → World → Prop}
@[irreducible] def DrW (P : Program) (n : Nat) (l0 l : List Oper) (Q : Exit → Act → World → Prop) (L : Env) (w : World) : Prop := AlikeO l0.toArray l.toArray → ∀ s, Sch l.toArray (Array.replicate l.length false) s → ∀ a, Fr n L a → wpOps P l0.toArray Q s a w
theorem dr_vc {L : Env} {w : World} (ord : List Nat) (hck : drawOk l n ord sp = true) (h : VC P n l (masks l []) sp Q ord L w []) : DrW P n l0 l Q L w := by
  unfold DrW
  intro hal s hs a ha
  refine hal.wpOps s a w (any_sch s l.length _ a w ?_ hs)
  have st := drawOk_spec hck
  have inv0 : Inv P n l sp ord Q a L (Array.replicate l.length false) a w [] ord [] false :=
    { size := by simp, closed := fun i o _ hl => (by rw [getD_replicate_false] at hl; cases hl), order := rfl, vc := h, head := (fun h => by cases h), inD := fun i hl => (by rw [getD_replicate_false] at hl; cases hl),
      spD := by simp, old := fun _ _ => rfl, val := by simp, quiet := (by intro D1 r D2 e; simp at e), again := (by intro D1 r D2 e; simp at e), ops := by simp, tsize := ha.size, defers := ha.defers }
  obtain ⟨D, suf, pf, inv⟩ := inv0.advance st
  have htodo : todoN (Array.replicate l.length false) l.length = l.length := by
    unfold todoN
    rw [List.filter_eq_self.2 (fun i _ => by rw [getD_replicate_false]; rfl)]
    simp
  exact vc_any st ha l.length (Array.replicate l.length false) a w D suf pf inv htodo
end
end Go.Proofs.YtkaikhcpcbjkcaaGreatDoor.M
/- Walks where the frame holds deferred calls (D), and in a round of a range over a function (I). Conditions: the rules' own hypotheses. -/
namespace Go.Proofs.YtkaikhcpcbjkcaaGreatDoor.M
open Go.RowKit
section
variable {P : Program} {n m l : Nat} {ops : Array Oper} {Q : Exit → Act → World → Prop} {rest : List Oper} {L : Env} {w : World} {D : List Deferred} {ty : TypeId} {pos : String} {aft : Array Edge}
def more (D : List Deferred) (a : Act) : Act := { a with defers := a.defers ++ D }
theorem more_put (a : Act) (d : Option Tmp) (v : Value) : (more D a).put d v = more D (a.put d v) := by cases d <;> rfl
theorem more_eval (a : Act) : (more D a).eval = a.eval := by funext x; cases x <;> rfl
def QD (D : List Deferred) (Q : Exit → Act → World → Prop) : Exit → Act → World → Prop := fun e a w => Q e (more D a) w
theorem letsD (h : LetsOut (QD D Q)) : LetsOut Q := by obtain ⟨a, w, h⟩ := h; exact ⟨_, w, h⟩
theorem uponD {o : Oper} {a : Act} {K K' : Act → World → Prop} (hK : ∀ a w, K a w → K' (more D a) w) {r : Result Next} (h : o.upon P a K (QD D Q) r) : o.upon P (more D a) K' Q r := by
  unfold Oper.upon at h ⊢
  split at h
  · rw [more_put]; exact hK _ _ h
  · rw [more_put]; exact hK _ _ h
  · have := hK _ _ h; rw [← more_put] at this; exact this
  · refine Calls.mono h fun e w' he => ?_
    cases e with
    | returned v => dsimp only at he ⊢; rw [more_put]; exact hK _ _ he
    | panicked c => exact he
    | outgrown => exact letsD he
  · refine Rows.mono h fun v w' he => ?_
    rw [more_put]; exact hK _ _ he
  · exact h
  · exact h.elim
theorem opD {o : Oper} {a : Act} {K K' : Act → World → Prop} (hK : ∀ a w, K a w → K' (more D a) w) (h : o.wp P a w K (QD D Q) ∨ (o.asks P a w ∧ LetsOut (QD D Q))) : o.wp P (more D a) w K' Q ∨ (o.asks P (more D a) w ∧ LetsOut Q) := by
  rcases h with h | ⟨h1, h2⟩
  · refine .inl ?_
    unfold Oper.wp at h ⊢
    rw [more_eval]
    exact uponD hK h
  · refine .inr ⟨?_, letsD h2⟩
    unfold Oper.asks at h1 ⊢
    rw [more_eval]; exact h1
theorem listD : ∀ (rest : List Oper) (a : Act) (w : World), wpList P ops (QD D Q) rest a w → wpList P ops Q rest (more D a) w
  | [], _, _, h => h
  | o :: rest, a, w, h => by
    unfold wpList at h ⊢
    rw [show (more D a).tmps = a.tmps from rfl]
    split
    · rename_i hw
      rw [if_pos hw] at h
      exact opD (fun a w => listD rest a w) h
    · rename_i hw
      rw [if_neg hw] at h
      rw [more_put]; exact listD rest _ _ h
theorem opsD : ∀ (s : List Nat) (a : Act) (w : World), wpOps P ops (QD D Q) s a w → wpOps P ops Q s (more D a) w
  | [], _, _, h => h
  | i :: s, a, w, h => by
    unfold wpOps at h ⊢
    cases ho : ops[i]? with
    | none => simp only [ho] at h ⊢; exact opsD s a w h
    | some o =>
      simp only [ho] at h ⊢
      rw [show (more D a).tmps = a.tmps from rfl]
      split
      · rename_i hw
        rw [if_pos hw] at h
        exact opD (fun a w => opsD s a w) h
      · rename_i hw
        rw [if_neg hw] at h
        rw [more_put]; exact opsD s _ _ h
structure FrD (D : List Deferred) (n : Nat) (L : Env) (a : Act) : Prop where
  size : a.tmps.size = n
  defers : a.defers = D
  get : ∀ t v, eget L t = some v → a.tmps[t]? = some v
theorem FrD.less {a : Act} (h : FrD D n L a) : ∃ a0, Fr n L a0 ∧ a = more D a0 := ⟨{ a with defers := [] }, ⟨h.size, rfl, h.get⟩, by obtain ⟨t, d⟩ := a; have := h.defers; simp at this; subst this; rfl⟩
theorem Fr.more {a : Act} (h : Fr n L a) : FrD D n L (more D a) := ⟨h.size, by show a.defers ++ D = D; rw [h.defers]; rfl, h.get⟩
theorem FrD.eval {a : Act} (h : FrD D n L a) {x : Operand} {v : Value} (hx : look L x = some v) : a.eval x = v := by
  obtain ⟨a0, h0, rfl⟩ := h.less
  rw [more_eval]; exact h0.eval hx
theorem FrD.sub {L' : Env} {a : Act} (h : FrD D n L a) (hs : SubE L L') : FrD D n L' a := ⟨h.size, h.defers, fun t v ht => h.get t v (hs.get t v ht)⟩
@[irreducible] def wcD (D : List Deferred) (P : Program) (n : Nat) (c : Code) (Q : Exit → Act → World → Prop) (L : Env) (w : World) : Prop := ∀ a, FrD D n L a → c.wp P Q a w
@[irreducible] def qsD (D : List Deferred) (n : Nat) (Q : Exit → Act → World → Prop) (e : Exit) (L : Env) (w : World) : Prop := ∀ a, FrD D n L a → Q e a w
theorem qsD_of {e : Exit} (h : qsD D n Q e L w) : qs n (QD D Q) e L w := by unfold qsD at h; unfold qs; exact fun a ha => h _ ha.more
theorem wcD_sub {c : Code} {L' : Env} (hs : SubE L L') (h : wcD D P n c Q L' w) : wcD D P n c Q L w := by unfold wcD at *; exact fun a ha => h a (ha.sub hs)
theorem wcD_seq {x y : Code} (h : wcD D P n x (Exit.then (y.wp P Q) Q) L w) : wcD D P n (.seq x y) Q L w := by unfold wcD at *; exact fun a ha => Go.wp_seq (h a ha)
theorem wcD_region {id : Nat} {l : List Oper} (h : wl P n l.toArray (QD D Q) l L w) : wcD D P n (.region id l.toArray false) Q L w := by
  unfold wcD; unfold wl at h
  intro a ha
  obtain ⟨a0, h0, rfl⟩ := ha.less
  exact Go.wp_region_lit (listD _ _ _ (h a0 h0))
theorem wcD_draws {id : Nat} {l : List Oper} (hm : P.follows .mixedOrders = true) (h : DrW P n l l (QD D Q) L w.drew) : wcD D P n (.region id l.toArray true) Q L w := by
  unfold wcD
  unfold DrW at h
  intro a ha
  obtain ⟨a0, h0, rfl⟩ := ha.less
  refine wp_region_draw fun t => ?_
  simp only [Region.schedule, hm, Bool.true_or, if_true]
  refine opsD _ _ _ (h (AlikeO.refl _) _ ?_ a0 h0)
  have := go_sch l.toArray l.toArray.size t (Array.replicate l.length false) (by
    unfold todoN
    have := List.length_filter_le (fun i => !(Array.replicate l.length false).getD i false) (List.range l.toArray.size)
    simpa using this)
  simpa [Region.linearise] using this
theorem wcD_block {id : Nat} {c : Code} (h : wcD D P n c (Exit.inBlock id Q) L w) : wcD D P n (.block id c) Q L w := by unfold wcD at *; exact fun a ha => Go.wp_block (h a ha)
theorem wcD_skip (h : qsD D n Q .normal L w) : wcD D P n .skip Q L w := by unfold wcD; unfold qsD at h; exact fun a ha => Go.wp_skip (h a ha)
theorem wcD_ret (h : qsD D n Q .ret L w) : wcD D P n .ret Q L w := by unfold wcD; unfold qsD at h; exact fun a ha => Go.wp_ret (h a ha)
theorem wcD_cond {c : Operand} {x y : Code} {t : Bool} (hc : look L c = some (.bool t)) (h1 : t = true → wcD D P n x Q L w) (h2 : t = false → wcD D P n y Q L w) : wcD D P n (.cond c x y) Q L w := by
  unfold wcD at *; exact fun a ha => Go.wp_cond_split (ha.eval hc) (fun e => h1 e a ha) (fun e => h2 e a ha)
theorem wcD_condD {c : Operand} {x y : Code} {p : Prop} {dp : Decidable p} (hc : look L c = some (.bool (@decide p dp))) (h1 : p → wcD D P n x Q L w) (h2 : ¬ p → wcD D P n y Q L w) : wcD D P n (.cond c x y) Q L w :=
  wcD_cond hc (fun e => h1 (of_decide_eq_true e)) (fun e => h2 (of_decide_eq_false e))
theorem qsD_seq {y : Code} (h : wcD D P n y Q L w) : qsD D n (Exit.then (y.wp P Q) Q) .normal L w := by unfold qsD; unfold wcD at h; exact fun a ha => h a ha
theorem qsD_then_ret {K : Act → World → Prop} (h : qsD D n Q .ret L w) : qsD D n (Exit.then K Q) .ret L w := by unfold qsD at *; exact fun a ha => h a ha
theorem qsD_block_normal {id : Nat} (h : qsD D n Q .normal L w) : qsD D n (Exit.inBlock id Q) .normal L w := by unfold qsD at *; exact fun a ha => h a ha
theorem qsD_block_ret {id : Nat} (h : qsD D n Q .ret L w) : qsD D n (Exit.inBlock id Q) .ret L w := by unfold qsD at *; exact fun a ha => h a ha
/-- 'defer f()', f a function value, at a region's end -/
theorem wl_defer {x : Operand} {f : Nat} {fs cap : Array Value} {ts : Array TypeId} (hx : look L x = some (.func (.func f) fs cap)) (h : qsD [{ target := .fn (.func f) cap, args := fs }] n Q .normal L w) : wl P n ops Q [⟨none, .defer ⟨.value x, #[], ts⟩, ty, pos, aft, none⟩] L w := by
  unfold wl; unfold qsD at h
  intro a ha
  unfold wpList
  rw [if_pos (by simp [Region.wanted])]
  refine .inl ?_
  unfold Oper.wp
  have hr : (execOp a.eval ⟨none, .defer ⟨.value x, #[], ts⟩, ty, pos, aft, none⟩).run P w = .ok (.defer { target := .fn (.func f) cap, args := fs }) w := by
    simp [execOp, resolve, ha.eval hx, Deferred.ofValue]
  rw [hr]
  exact h _ ⟨ha.size, by show _ :: a.defers = _; rw [ha.defers], ha.get⟩
/-! ### a function with deferred calls -/
/-- the mark of a loop over a function: nothing was deferred in its rounds -/
theorem finM {fn : Func} {R : Ending → World → Prop} {e : Exit} {B : Nat} {v : Value} (he : e = .normal ∨ e = .ret) (hB : w.heap[B]? = some (.deferred (some []))) (hr : ∀ a, Fr n L a → (results fn a.tmps).run P (w.putObj B (.deferred none)) = .ok v (w.putObj B (.deferred none))) (h : R (.returned v) (w.putObj B (.deferred none))) :
    qsD [{ target := .collected B, args := #[] }] n (bodyPostM Fence.wide 0 P fn R) e L w := by
  unfold qsD
  intro a ha
  have main : LeavesInM Fence.wide 0 P fn a.tmps R a.defers .returning w := by
    rw [ha.defers]
    exact ⟨by simp, .inl ⟨B, _, rfl, run_takeDeferred hB, ⟨v, hr { tmps := a.tmps, defers := [] } ⟨ha.size, rfl, ha.get⟩, h⟩⟩⟩
  rcases he with rfl | rfl <;> exact main
/-- the same function, where it is left ahead of the loop -/
theorem finM0 {fn : Func} {R : Ending → World → Prop} {e : Exit} {v : Value} (he : e = .normal ∨ e = .ret) (hr : ∀ a, Fr n L a → (results fn a.tmps).run P w = .ok v w) (h : R (.returned v) w) : qs n (bodyPostM Fence.wide 0 P fn R) e L w := by
  unfold qs
  intro a ha
  have main : LeavesInM Fence.wide 0 P fn a.tmps R a.defers .returning w := by
    rw [ha.defers]; exact ⟨v, hr a ha, h⟩
  rcases he with rfl | rfl <;> exact main
/-! ### a round -/
@[irreducible] def wcI (l : Nat) (P : Program) (n : Nat) (c : Code) (Q : Exit → Act → World → Prop) (L : Env) (w : World) : Prop := ∀ a, Fr n L a → c.wpIn (RF l) 0 P Q a w
theorem wcI_sub {c : Code} {L' : Env} (hs : SubE L L') (h : wcI l P n c Q L' w) : wcI l P n c Q L w := by unfold wcI at *; exact fun a ha => h a (ha.sub hs)
theorem wcI_seq {x y : Code} (h : wcI l P n x (Exit.then (y.wpIn (RF l) 0 P Q) Q) L w) : wcI l P n (.seq x y) Q L w := by unfold wcI at *; exact fun a ha => Go.wpIn_seq (h a ha)
def noDef (o : Oper) : Bool := match o.op with | .defer _ => false | _ => true
theorem wcI_region {id : Nat} {os : List Oper} (hQ : ¬ LetsOut Q) (hd : os.all noDef = true) (h : wl P n os.toArray Q os L w) : wcI l P n (.region id os.toArray false) Q L w := by
  unfold wcI; unfold wl at h
  exact fun a ha => Go.wpIn_region_lit (listIn_of hQ _ _ _ (fun o ho c e => by have := List.all_eq_true.1 hd o ho; unfold noDef at this; rw [e] at this; cases this) (h a ha))
theorem wcI_block {id : Nat} {c : Code} (h : wcI l P n c (Exit.inBlock id Q) L w) : wcI l P n (.block id c) Q L w := by unfold wcI at *; exact fun a ha => Go.wpIn_block (h a ha)
theorem wcI_skip (h : qs n Q .normal L w) : wcI l P n .skip Q L w := by unfold wcI; unfold qs at h; exact fun a ha => Go.wpIn_skip (h a ha)
theorem wcI_cond {c : Operand} {x y : Code} {t : Bool} (hc : look L c = some (.bool t)) (h1 : t = true → wcI l P n x Q L w) (h2 : t = false → wcI l P n y Q L w) : wcI l P n (.cond c x y) Q L w := by
  unfold wcI at *; exact fun a ha => Go.wpIn_cond_split (ha.eval hc) (fun e => h1 e a ha) (fun e => h2 e a ha)
theorem wcI_condD {c : Operand} {x y : Code} {p : Prop} {dp : Decidable p} (hc : look L c = some (.bool (@decide p dp))) (h1 : p → wcI l P n x Q L w) (h2 : ¬ p → wcI l P n y Q L w) : wcI l P n (.cond c x y) Q L w :=
  wcI_cond hc (fun e => h1 (of_decide_eq_true e)) (fun e => h2 (of_decide_eq_false e))
theorem wcI_condF {c : Operand} {x y : Code} (hc : look L c = some (.bool false)) (h1 : wcI l P n y Q L w) : wcI l P n (.cond c x y) Q L w := wcI_cond hc (fun e => by cases e) (fun _ => h1)
theorem qsI_seq {y : Code} (h : wcI l P n y Q L w) : qs n (Exit.then (y.wpIn (RF l) 0 P Q) Q) .normal L w := by unfold qs; unfold wcI at h; exact fun a ha => h a ha
theorem qsI_block_normal {id : Nat} (h : qs n Q .normal L w) : qs n (Exit.inBlock id Q) .normal L w := qs_block_normal h
end
end Go.Proofs.YtkaikhcpcbjkcaaGreatDoor.M
/- Rounds of a range over a function whose yield may answer false; a round within a round. Conditions: the rules' own hypotheses. -/
namespace Go.Proofs.YtkaikhcpcbjkcaaGreatDoor.M
open Go.RowKit
section
variable {P : Program} {n l : Nat} {ops : Array Oper} {Q : Exit → Act → World → Prop} {rest : List Oper} {L : Env} {w : World} {ty : TypeId} {pos : String} {aft : Array Edge}
/-- a call of yield that answers b -/
def YB (P : Program) (l : Nat) (v : Value) (w : World) (R : Bool → World → Prop) : Prop := YieldAt Fence.wide 0 P l #[v] w (fun e w' => ∃ b, e = .returned (.bool b) ∧ R b w')
theorem wlI_yieldB {d : Nat} {x y : Operand} {v : Value} {ts : Array TypeId} {R : Bool → World → Prop} (hx : look L x = some (.func (.yield l) #[] #[])) (hy : look L y = some v) (hd : Nat.blt d n = true)
    (hY : YB P l v w R) (hk : ∀ b w', R b w' → wlI P n ops Q rest ((d, .bool b) :: L) w') : wlI P n ops Q (⟨some d, .call ⟨.value x, #[y], ts⟩, ty, pos, aft, none⟩ :: rest) L w := by
  obtain ⟨fn, tmps, assign, body, h1, h2⟩ := hY
  unfold wlI at *
  intro a ha
  unfold wpListIn
  rw [if_pos (by simp [Region.wanted])]
  refine ⟨fun _ _ => trivial, ?_⟩
  have h3 : (execOp a.eval ⟨some d, .call ⟨.value x, #[y], ts⟩, ty, pos, aft, none⟩).run P w = .ok (.round l fn tmps assign body) w := by
    simp only [execOp, resolve, ha.eval hx, Deferred.ofValue, invoke]
    simp [ha.eval hy, h1]
  show Oper.uponIn _ _ _ _ _ _ _ ((Oper.semAt none a.eval _).run P w)
  rw [Oper.semAt_none, h3]
  refine ⟨fun q => by simp [Fence.wide] at q, h2.mono fun e w' ⟨b, he, hR⟩ => ?_⟩
  subst he
  exact hk b w' hR _ (ha.put (some d) _ hd)
/-- a region of a round's body that calls yield itself (of another loop) -/
@[irreducible] def wlR (l : Nat) (P : Program) (n : Nat) (ops : Array Oper) (Q : Exit → Act → World → Prop) (rest : List Oper) (L : Env) (w : World) : Prop := ∀ a, Fr n L a → wpListIn (RF l) 0 P ops Q rest a w
theorem wcYreg {id : Nat} (h : wlR l P n ops Q ops.toList L w) : wcI l P n (.region id ops false) Q L w := by
  unfold wlR at h; unfold wcI
  intro a ha
  exact wpIn_region_list (h a ha)
theorem wlR_nil (h : qs n Q .normal L w) : wlR l P n ops Q [] L w := by
  unfold wlR; unfold qs at h
  exact h
theorem wlR_val {d : Nat} {op : Op} {v : Value} (hd : Nat.blt d n = true) (h : Ev P L w ⟨some d, op, ty, pos, aft, none⟩ v) (hnd : ∀ c, op ≠ .defer c) (hk : wlR l P n ops Q rest ((d, v) :: L) w) : wlR l P n ops Q (⟨some d, op, ty, pos, aft, none⟩ :: rest) L w := by
  unfold wlR at *
  intro a ha
  unfold wpListIn
  rw [if_pos (by simp [Region.wanted])]
  refine ⟨fun _ _ => trivial, ?_⟩
  have h1 := h a.eval (fun x u hx => ha.eval hx)
  rw [Oper.semAt_eq _ _ _ hnd, h1]
  exact hk _ (ha.put (some d) v hd)
theorem wlR_guard {d : Option Nat} {o : Op} {j t : Nat} {want g : Bool} (hj : (ops[j]?).bind (·.dst) = some t) (ht : eget L t = some (.bool g)) (hg : g = want) (h : wlR l P n ops Q (⟨d, o, ty, pos, aft, none⟩ :: rest) L w) : wlR l P n ops Q (⟨d, o, ty, pos, aft, some (j, want)⟩ :: rest) L w := by
  unfold wlR at *
  intro a ha
  have := h a ha
  have hw : Region.wanted ⟨d, o, ty, pos, aft, some (j, want)⟩ (yielded ops a.tmps) = true := by
    have := ha.get t _ ht
    simp [Region.wanted, yielded, hj, this, hg]
  unfold wpListIn at this ⊢
  rw [if_pos hw]
  rw [if_pos (by simp [Region.wanted])] at this
  exact this
theorem wlR_unwanted {d : Option Nat} {o : Op} {j t : Nat} {want g : Bool} (hj : (ops[j]?).bind (·.dst) = some t) (ht : eget L t = some (.bool g)) (hg : g = !want) (hd : (match d with | some d => Nat.blt d n | none => true) = true) (h : wlR l P n ops Q rest (pd d undef L) w) : wlR l P n ops Q (⟨d, o, ty, pos, aft, some (j, want)⟩ :: rest) L w := by
  unfold wlR at *
  intro a ha
  have hw : Region.wanted ⟨d, o, ty, pos, aft, some (j, want)⟩ (yielded ops a.tmps) = false := by
    have := ha.get t _ ht
    simp [Region.wanted, yielded, hj, this, hg]
  unfold wpListIn
  rw [if_neg (by rw [hw]; simp)]
  exact ⟨fun _ _ => trivial, h _ (ha.put d undef hd)⟩
theorem wlR_yieldB {l2 d : Nat} {x y : Operand} {v : Value} {ts : Array TypeId} {R : Bool → World → Prop} (hx : look L x = some (.func (.yield l2) #[] #[])) (hy : look L y = some v) (hd : Nat.blt d n = true)
    (hY : YB P l2 v w R) (hk : ∀ b w', R b w' → wlR l P n ops Q rest ((d, .bool b) :: L) w') : wlR l P n ops Q (⟨some d, .call ⟨.value x, #[y], ts⟩, ty, pos, aft, none⟩ :: rest) L w := by
  obtain ⟨fn, tmps, assign, body, h1, h2⟩ := hY
  unfold wlR at *
  intro a ha
  unfold wpListIn
  rw [if_pos (by simp [Region.wanted])]
  refine ⟨fun _ _ => trivial, ?_⟩
  have h3 : (execOp a.eval ⟨some d, .call ⟨.value x, #[y], ts⟩, ty, pos, aft, none⟩).run P w = .ok (.round l2 fn tmps assign body) w := by
    simp only [execOp, resolve, ha.eval hx, Deferred.ofValue, invoke]
    simp [ha.eval hy, h1]
  rw [Oper.semAt_eq _ _ _ (fun c e => by cases e), h3]
  have h4 : RoundIn (RF l) 0 P l2 fn tmps assign body w (fun e w' => ∃ b, e = .returned (.bool b) ∧ R b w') := h2
  refine ⟨fun q => by simp [RF, Fence.wide, Fence.inRound] at q, h4.mono fun e w' ⟨b, he, hR⟩ => ?_⟩
  subst he
  exact hk b w' hR _ (ha.put (some d) _ hd)
theorem qsI_then_ret {K : Act → World → Prop} (h : qs n Q .ret L w) : qs n (Exit.then K Q) .ret L w := qs_then_ret h
theorem qsI_block_ret {id : Nat} (h : qs n Q .ret L w) : qs n (Exit.inBlock id Q) .ret L w := qs_block_ret h
theorem wcI_ret (h : qs n Q .ret L w) : wcI l P n .ret Q L w := by unfold wcI; unfold qs at h; exact fun a ha => Go.wpIn_ret (h a ha)
theorem opsIn_of (hQ : ¬ LetsOut Q) : ∀ (s : List Nat) (a : Act) (w : World), noDefer ops.toList → wpOps P ops Q s a w → wpOpsIn (RF l) 0 P ops Q s a w
  | [], _, _, _, h => h
  | i :: s, a, w, hd, h => by
    unfold wpOps at h
    unfold wpOpsIn
    cases ho : ops[i]? with
    | none => simp only [ho] at h ⊢; exact opsIn_of hQ s a w hd h
    | some o =>
      simp only [ho] at h ⊢
      have hdo : ∀ c, o.op ≠ .defer c := hd o (by rw [Array.mem_toList_iff]; exact Array.mem_of_getElem? ho)
      split
      · rename_i hw
        rw [if_pos hw] at h
        rcases h with h | h
        · refine ⟨fun _ _ => trivial, ?_⟩
          rw [Oper.semAt_eq _ _ _ hdo]
          have h2 := uponIn_of_upon (l := l) (m := 0) h
          revert h2
          generalize (execOp a.eval o).run P w = r
          intro h2
          unfold Oper.uponIn at h2 ⊢
          split at h2
          · exact opsIn_of hQ s _ _ hd h2
          · exact opsIn_of hQ s _ _ hd h2
          · exact opsIn_of hQ s _ _ hd h2
          · refine ⟨h2.1, h2.2.mono fun e w' he => ?_⟩
            cases e with
            | returned v => exact opsIn_of hQ s _ _ hd he
            | panicked c => exact he
            | outgrown => exact he
          · exact ⟨h2.1, h2.2.mono fun v w' he => opsIn_of hQ s _ _ hd he⟩
          · refine ⟨h2.1, h2.2.mono fun e w' he => ?_⟩
            cases e with
            | returned v => exact opsIn_of hQ s _ _ hd he
            | panicked c => exact he
            | outgrown => exact he
          · exact h2
          · exact h2.elim
        · exact absurd h.2 hQ
      · rename_i hw
        rw [if_neg hw] at h
        exact ⟨fun _ _ => trivial, opsIn_of hQ s _ _ hd h⟩
theorem wcI_draws {id : Nat} {os : List Oper} (hQ : ¬ LetsOut Q) (hd : os.all noDef = true) (hm : P.follows .mixedOrders = true) (h : DrW P n os os Q L w.drew) : wcI l P n (.region id os.toArray true) Q L w := by
  unfold wcI
  unfold DrW at h
  intro a ha
  refine wpIn_region_draw fun t => ?_
  simp only [Region.schedule, hm, Bool.true_or, if_true]
  refine opsIn_of hQ _ _ _ (fun o ho c e => by have := List.all_eq_true.1 hd o (by simpa using ho); unfold noDef at this; rw [e] at this; cases this) (h (AlikeO.refl _) _ ?_ a ha)
  have := go_sch os.toArray os.toArray.size t (Array.replicate os.length false) (by
    unfold todoN
    have := List.length_filter_le (fun i => !(Array.replicate os.length false).getD i false) (List.range os.toArray.size)
    simpa using this)
  simpa [Region.linearise] using this
/-- a round, out of the walks of its assignment and of its body -/
theorem yield1G {t1 : Nat} {x1 : Value} {rec : Loop} {assign body : Code} {L0 : Env} {R : Bool → World → Prop}
    (hrec : w.heap[l]? = some (.loop rec)) (hps : rec.params = #[t1]) (has : rec.assign = assign) (hbo : rec.body = body) (htn : rec.tmps.size = n)
    (hfr : ∀ t v, eget L0 t = some v → rec.tmps[t]? = some v) (ht1 : Nat.blt t1 n = true)
    (h : wcI l P n assign (Exit.then (fun a₁ w₁ => ∃ w₂, (Instr.beginRound l).run P w₁ = .ok () w₂ ∧ body.wpIn (RF l) 0 P (roundPost P l fun e w' => ∃ b, e = .returned (.bool b) ∧ R b w') a₁ w₂) (fun _ _ _ => False)) ((t1, x1) :: L0) w) :
    YB P l x1 w R := by
  subst has hbo
  unfold wcI at h
  refine ⟨rec.fn, rec.tmps.setIfInBounds t1 x1, rec.assign, rec.body, ?_, roundIn_of_wpIn trivial ?_⟩
  · have := run_yield (P := P) (args := #[x1]) hrec (by simp [hps])
    simpa [hps] using this
  · have ha0 : Fr n L0 { tmps := rec.tmps, defers := [] } := ⟨htn, rfl, hfr⟩
    exact h _ (ha0.put (some t1) x1 ht1)
theorem qsI_beginB {rec : Loop} {body : Code} {R : Bool → World → Prop} {Q2 : Exit → Act → World → Prop} (hrec : w.heap[l]? = some (.loop rec)) (hst : rec.state = .ready) (h : wcI l P n body (roundPost P l fun e w' => ∃ b, e = .returned (.bool b) ∧ R b w') L (w.putObj l (.loop { rec with state := .busy }))) :
    qs n (Exit.then (fun a₁ w₁ => ∃ w₂, (Instr.beginRound l).run P w₁ = .ok () w₂ ∧ body.wpIn (RF l) 0 P (roundPost P l fun e w' => ∃ b, e = .returned (.bool b) ∧ R b w') a₁ w₂) Q2) .normal L w := by
  unfold wcI at h; unfold qs
  exact fun a ha => ⟨_, run_beginRound hrec hst, h a ha⟩
theorem qsI_endB {rec : Loop} {R : Bool → World → Prop} (hrec : w.heap[l]? = some (.loop { rec with state := .busy })) (hst : rec.state = .ready) (hpd : rec.pending = none) (hR : R true (w.putObj l (.loop rec))) : qs n (roundPost P l fun e w' => ∃ b, e = .returned (.bool b) ∧ R b w') .normal L w := by
  unfold qs
  intro a _
  refine ⟨_, _, run_endRound none hrec, true, rfl, ?_⟩
  have e : ({ { rec with state := .busy } with state := if (none : Option Code).isNone then .ready else .done, pending := none } : Loop) = rec := by
    cases rec; simp at hst hpd; subst hst hpd; rfl
  rw [e]; exact hR
theorem qsI_retB {rec : Loop} {R : Bool → World → Prop} (hrec : w.heap[l]? = some (.loop { rec with state := .busy })) (hR : R false (w.putObj l (.loop { rec with state := .done, pending := some .ret }))) : qs n (roundPost P l fun e w' => ∃ b, e = .returned (.bool b) ∧ R b w') .ret L w := by
  unfold qs
  intro a _
  exact ⟨_, _, run_endRound (some .ret) hrec, false, rfl, hR⟩
/-- the statement: on behind it, or left by a return within a round -/
theorem wc_rangeFuncB {g : Operand} {ps : Array Tmp} {assign body : Code} {gf : Nat} {caps : List Value} (hg : look L g = some (.func (.func gf) #[] caps.toArray)) (hc : callB P gf = true)
    (h : ∀ rec : Loop, rec.state = .ready → rec.pending = none → rec.params = ps → rec.assign = assign → rec.body = body → rec.tmps.size = n → (∀ t v, eget L t = some v → rec.tmps[t]? = some v) →
      Calls P gf (Value.func (.yield (w.heap.size + 1)) #[] #[] :: caps).toArray ((w.alloc (.deferred (some []))).alloc (.loop rec)) (fun e w3 => (∃ v, e = .returned v) ∧ ∃ rec' : Loop, w3.heap[w.heap.size + 1]? = some (.loop rec') ∧ rec'.state ≠ .busy ∧
        ((rec'.pending = none ∧ qsD [{ target := .collected w.heap.size, args := #[] }] n Q .normal L (w3.putObj (w.heap.size + 1) (.loop { rec' with state := .exhausted }))) ∨
         (rec'.pending = some .ret ∧ qsD [{ target := .collected w.heap.size, args := #[] }] n Q .ret L (w3.putObj (w.heap.size + 1) (.loop { rec' with state := .exhausted })))))) :
    wc P n (.rangeFunc g ps assign body) Q L w := by
  unfold wc
  intro a ha
  refine (wpIn_wide (n := 0)).1 (wpIn_rangeFunc fun fn _ => ?_)
  obtain ⟨W1, hW1⟩ : ∃ W1, W1 = (w.alloc (.deferred (some []))).alloc (.loop { state := .ready, pending := none, fn, tmps := a.tmps, params := ps, assign, body, defers := w.heap.size }) := ⟨_, rfl⟩
  have e1 : (Instr.enterLoop fn a.tmps ps assign body none).run P w = .ok (w.heap.size + 1, [{ target := .collected w.heap.size, args := #[] }]) W1 := by rw [hW1]; exact run_enterLoop_outer fn a.tmps ps assign body
  have e2 : (resolve a.eval (rangeCall g (w.heap.size + 1)) 0).run P W1 = .ok { target := .fn (.func gf) caps.toArray, args := #[Value.func (.yield (w.heap.size + 1)) #[] #[]] } W1 := by
    simp only [resolve, rangeCall, ha.eval hg, Deferred.ofValue]
    simp [Act.eval]
  have e3 : (invoke (.fn (.func gf) caps.toArray) #[Value.func (.yield (w.heap.size + 1)) #[] #[]]).run P W1 = .ok (.enter gf (Value.func (.yield (w.heap.size + 1)) #[] #[] :: caps).toArray) W1 := by
    have := callB_run hc (Value.func (.yield (w.heap.size + 1)) #[] #[] :: caps).toArray W1
    simp only [invoke]
    simpa using this
  refine ⟨w.heap.size + 1, [{ target := .collected w.heap.size, args := #[] }], W1, { target := .fn (.func gf) caps.toArray, args := #[Value.func (.yield (w.heap.size + 1)) #[] #[]] }, W1, gf, (Value.func (.yield (w.heap.size + 1)) #[] #[] :: caps).toArray, W1, e1, e2, fun _ _ => trivial, e3, fun q => by simp [Fence.wide] at q, ?_⟩
  subst hW1
  refine callsIn_wide.2 ((h { state := .ready, pending := none, fn, tmps := a.tmps, params := ps, assign, body, defers := w.heap.size } rfl rfl rfl rfl rfl ha.size ha.get).mono fun e w3 ⟨⟨v, he⟩, rec, h1, h2, h4⟩ => ?_)
  subst he
  obtain ⟨st, pd, f1, t1, p1, a1, b1, d1⟩ := rec
  have hfr : FrD [{ target := .collected w.heap.size, args := #[] }] n L { a with defers := [{ target := .collected w.heap.size, args := #[] }] ++ a.defers } := ⟨ha.size, by rw [ha.defers]; rfl, ha.get⟩
  unfold qsD at h4
  rcases h4 with ⟨h3, h4⟩ | ⟨h3, h4⟩
  · simp only at h3
    subst h3
    exact ⟨none, _, run_endLoop h1 h2, h4 _ hfr⟩
  · simp only at h3
    subst h3
    exact ⟨some .ret, _, run_endLoop h1 h2, Go.wpIn_ret (h4 _ hfr)⟩
/-- the statement, where the frame holds deferred calls -/
theorem wcD_rangeFuncB {D : List Deferred} {g : Operand} {ps : Array Tmp} {assign body : Code} {gf : Nat} {caps : List Value} (hg : look L g = some (.func (.func gf) #[] caps.toArray)) (hc : callB P gf = true)
    (h : ∀ rec : Loop, rec.state = .ready → rec.pending = none → rec.params = ps → rec.assign = assign → rec.body = body → rec.tmps.size = n → (∀ t v, eget L t = some v → rec.tmps[t]? = some v) →
      Calls P gf (Value.func (.yield (w.heap.size + 1)) #[] #[] :: caps).toArray ((w.alloc (.deferred (some []))).alloc (.loop rec)) (fun e w3 => (∃ v, e = .returned v) ∧ ∃ rec' : Loop, w3.heap[w.heap.size + 1]? = some (.loop rec') ∧ rec'.state ≠ .busy ∧
        ((rec'.pending = none ∧ qsD ({ target := .collected w.heap.size, args := #[] } :: D) n Q .normal L (w3.putObj (w.heap.size + 1) (.loop { rec' with state := .exhausted }))) ∨
         (rec'.pending = some .ret ∧ qsD ({ target := .collected w.heap.size, args := #[] } :: D) n Q .ret L (w3.putObj (w.heap.size + 1) (.loop { rec' with state := .exhausted })))))) :
    wcD D P n (.rangeFunc g ps assign body) Q L w := by
  unfold wcD
  intro a ha
  refine (wpIn_wide (n := 0)).1 (wpIn_rangeFunc fun fn _ => ?_)
  obtain ⟨W1, hW1⟩ : ∃ W1, W1 = (w.alloc (.deferred (some []))).alloc (.loop { state := .ready, pending := none, fn, tmps := a.tmps, params := ps, assign, body, defers := w.heap.size }) := ⟨_, rfl⟩
  have e1 : (Instr.enterLoop fn a.tmps ps assign body none).run P w = .ok (w.heap.size + 1, [{ target := .collected w.heap.size, args := #[] }]) W1 := by rw [hW1]; exact run_enterLoop_outer fn a.tmps ps assign body
  have e2 : (resolve a.eval (rangeCall g (w.heap.size + 1)) 0).run P W1 = .ok { target := .fn (.func gf) caps.toArray, args := #[Value.func (.yield (w.heap.size + 1)) #[] #[]] } W1 := by
    simp only [resolve, rangeCall, ha.eval hg, Deferred.ofValue]
    simp [Act.eval]
  have e3 : (invoke (.fn (.func gf) caps.toArray) #[Value.func (.yield (w.heap.size + 1)) #[] #[]]).run P W1 = .ok (.enter gf (Value.func (.yield (w.heap.size + 1)) #[] #[] :: caps).toArray) W1 := by
    have := callB_run hc (Value.func (.yield (w.heap.size + 1)) #[] #[] :: caps).toArray W1
    simp only [invoke]
    simpa using this
  refine ⟨w.heap.size + 1, [{ target := .collected w.heap.size, args := #[] }], W1, { target := .fn (.func gf) caps.toArray, args := #[Value.func (.yield (w.heap.size + 1)) #[] #[]] }, W1, gf, (Value.func (.yield (w.heap.size + 1)) #[] #[] :: caps).toArray, W1, e1, e2, fun _ _ => trivial, e3, fun q => by simp [Fence.wide] at q, ?_⟩
  subst hW1
  refine callsIn_wide.2 ((h { state := .ready, pending := none, fn, tmps := a.tmps, params := ps, assign, body, defers := w.heap.size } rfl rfl rfl rfl rfl ha.size ha.get).mono fun e w3 ⟨⟨v, he⟩, rec, h1, h2, h4⟩ => ?_)
  subst he
  obtain ⟨st, pd, f1, t1, p1, a1, b1, d1⟩ := rec
  have hfr : FrD ({ target := .collected w.heap.size, args := #[] } :: D) n L { a with defers := [{ target := .collected w.heap.size, args := #[] }] ++ a.defers } := ⟨ha.size, by rw [ha.defers]; rfl, ha.get⟩
  unfold qsD at h4
  rcases h4 with ⟨h3, h4⟩ | ⟨h3, h4⟩
  · simp only at h3
    subst h3
    exact ⟨none, _, run_endLoop h1 h2, h4 _ hfr⟩
  · simp only at h3
    subst h3
    exact ⟨some .ret, _, run_endLoop h1 h2, Go.wpIn_ret (h4 _ hfr)⟩
/-- the end of a function that holds such loops and has deferred calls -/
theorem finP {D : List Deferred} {fn : Func} {R : Ending → World → Prop} {e : Exit} (he : e = .normal ∨ e = .ret) (h : ∀ a, FrD D n L a → LeavesInM Fence.wide 0 P fn a.tmps R D .returning w) : qsD D n (bodyPostM Fence.wide 0 P fn R) e L w := by
  unfold qsD
  intro a ha
  have main : LeavesInM Fence.wide 0 P fn a.tmps R a.defers .returning w := by rw [ha.defers]; exact h a ha
  rcases he with rfl | rfl <;> exact main
theorem leavesM_mark {fn : Func} {tmps : Array Value} {R : Ending → World → Prop} {B : Nat} {ds : List Deferred} (hB : w.heap[B]? = some (.deferred (some []))) (h : LeavesInM Fence.wide 0 P fn tmps R ds .returning (w.putObj B (.deferred none))) :
    LeavesInM Fence.wide 0 P fn tmps R ({ target := .collected B, args := #[] } :: ds) .returning w := ⟨by simp, .inl ⟨B, _, rfl, run_takeDeferred hB, h⟩⟩
theorem leavesM_fn {fn : Func} {tmps : Array Value} {R : Ending → World → Prop} {R0 : Value → World → Prop} {f : Nat} {cap : List Value} {ds : List Deferred} (hc : callB P f = true) (hcd : CallsDIn Fence.wide 0 P f cap.toArray .returning w (fun e u' w' => u' = .returning ∧ Ret R0 e w'))
    (hk : ∀ v0 w', R0 v0 w' → LeavesInM Fence.wide 0 P fn tmps R ds .returning w') : LeavesInM Fence.wide 0 P fn tmps R ({ target := .fn (.func f) cap.toArray, args := #[] } :: ds) .returning w := by
  refine ⟨by simp, .inr ⟨fun q => by simp [Fence.wide] at q, .func f, cap.toArray, f, cap.toArray, rfl, ?_, fun _ _ => trivial, ?_⟩⟩
  · have := callB_run hc cap.toArray w
    simp only [invoke]
    simpa using this
  refine hcd.mono ?_
  rintro e u' w' ⟨rfl, v0, rfl, h0⟩
  exact hk v0 w' h0
theorem callsDIn_enter {f : FuncId} {fn : Func} {c : Code} {args : List Value} {R : Ending → World → Prop} {u : FrameMode} (hf : P.funcs[f]? = some fn) (hb : fn.body = some c) (hn : fn.ntmps = n) (hl : Nat.ble args.length n = true)
    (h : wc P n c (bodyPost P fn R) (argsE 0 args) w) : CallsDIn Fence.wide 0 P f args.toArray u w (fun e u' w' => u' = u ∧ R e w') := by
  have hle : args.length ≤ n := Nat.le_of_ble_eq_true hl
  unfold wc at h
  refine callsDIn_of_wp hf hb trivial ((wpIn_wide (n := 0)).2 (h _ ⟨by simp [hn]; omega, rfl, fun t v ht => ?_⟩))
  obtain ⟨_, h2⟩ := argsE_get args 0 t v ht
  simp only [Nat.sub_zero] at h2
  have hlt := (List.getElem?_eq_some_iff.1 h2).1
  rw [Array.getElem?_append_left (by simpa using hlt)]
  simpa using h2
theorem res_three {fn : Func} {r r2 r3 : ResultVar} {v v2 v3 : Value} (hf : fn.results = #[r, r2, r3]) (hv : resOk P n L w r v) (hv2 : resOk P n L w r2 v2) (hv3 : resOk P n L w r3 v3) (a : Act) (ha : Fr n L a) : (results fn a.tmps).run P w = .ok (.tuple #[v, v2, v3]) w := by
  rw [results_eq, hf]; simp [hv a ha, hv2 a ha, hv3 a ha]
end
/-- whatever the rounds keep over the strings xs; Z: after a round that answered false -/
def YieldsB (P : Program) (l : Nat) (xs : List (List UInt8)) (J : Nat → Th) (Z : Th) : Prop :=
  ∀ (i : Nat) (x : List UInt8) (R : Th) (w : World), xs[i]? = some x → Sat w [J i, R] → YB P l (strV x) w (fun b w' => (b = true ∧ Sat w' [J (i + 1), R]) ∨ (b = false ∧ Sat w' [Z, R]))
end Go.Proofs.YtkaikhcpcbjkcaaGreatDoor.M
