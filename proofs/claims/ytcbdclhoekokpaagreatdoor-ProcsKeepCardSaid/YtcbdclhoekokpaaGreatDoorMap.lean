/- Maps: what lies in a map's block, and laws for the operations on maps. Keys: of one kind ('KeyOk'): integers, or structs of two integers. -/
import Derived.Test.YtcbdclhoekokpaaGreatDoorMem
import Derived.MapKept
import Derived.Laws.IdiomRangeMap
import Derived.Maps.RangeRun
namespace Go.Proofs.YtcbdclhoekokpaaGreatDoor.M
open Go.RowKit

/-- how the keys of a map are found -/
structure KeyOk {κ : Type} (P : Program) (kt : TypeId) (kv : κ → Value) : Prop where
  inj : ∀ a b, kv a = kv b → a = b
  bits : ∀ a, Instr.sameBits 10000 (kv a) (kv a) = true
  check : ∀ (e : Bool) (a : κ) (w : World), (Instr.checkKey e 10000 kt (kv a)).run P w = .ok () w
  find : ∀ (a : κ) (l : List MapEntry) (w : World), (∀ x ∈ l, ∃ b, x.key = kv b) →
    (∃ i x, l[i]? = some x ∧ x.key = kv a ∧ (Instr.findKey kt (kv a) l).run P w = .ok (some (i, x.val)) w) ∨ ((∀ x ∈ l, x.key ≠ kv a) ∧ (Instr.findKey kt (kv a) l).run P w = .ok none w)

def intK (a : Int) : Value := .int .i64 a
def pairK (p : Int × Int) : Value := .agg #[.int .i64 p.1, .int .i64 p.2]

theorem keyOk_int {P : Program} {kt : TypeId} (hu : P.underlying kt = some (.int .i64)) : KeyOk P kt intK where
  inj := by intro a b h; simpa [intK] using h
  bits := fun a => MapKept.sameBits_self (d := .int .i64) (by simp [MapKept.IsKey, intK]) _
  check := fun e a w => MapKept.run_checkKey hu (by simp [MapKept.IsKey, intK]) e 9999
  find := fun a l w h => by
    rcases MapKept.findNow_spec (d := .int .i64) (k := intK a) (by simp [MapKept.IsKey, intK]) l 0 (fun x hx => by obtain ⟨b, hb⟩ := h x hx; rw [hb]; simp [MapKept.IsKey, intK]) with ⟨h1, h2⟩ | ⟨j, e, h1, h2, h3⟩
    · exact .inr ⟨h2, MapKept.run_findKey hu h1⟩
    · refine .inl ⟨j, e, h2, h3, ?_⟩
      rw [Nat.zero_add] at h1
      exact MapKept.run_findKey hu h1

theorem run_part0 {P : Program} {t : TypeId} {k : IntKind} (hu : P.underlying t = some (.int k)) (cs : Array Value) (off : Nat) (v : Value) (hv : cs[off]? = some v) (w : World) : (part t cs off).run P w = .ok v w := by
  simp [part, isAgg, run_underlying hu, hv]

theorem run_equalIn_int {P : Program} {t : TypeId} {k : IntKind} (hu : P.underlying t = some (.int k)) (n : Nat) (a b : Int) (w : World) : (Op.equalIn (n + 1) t (.int k a) (.int k b)).run P w = .ok (a == b) w := by
  unfold Op.equalIn
  simp only [Sem.run_bind, run_underlying hu, Result.andThen]
  simp

theorem keyOk_pair {P : Program} {kt t : TypeId} {f0 f1 : Field} (hu : P.underlying kt = some (.struct #[f0, f1])) (hs : P.stoodInHeld kt = false) (ht : P.underlying t = some (.int .i64))
    (h0 : f0.type = t) (h1 : f1.type = t) (o0 : f0.offset = 0) (o1 : f1.offset = 1) (n0 : f0.name ≠ "_") (n1 : f1.name ≠ "_") : KeyOk P kt pairK where
  inj := by rintro ⟨a, b⟩ ⟨c, d⟩ h; simpa [pairK] using h
  bits := fun a => by simp [pairK, Instr.sameBits]
  check := fun e a w => by
    unfold Instr.checkKey
    simp only [Sem.run_bind, run_underlying hu, Result.andThen, pairK]
    have c : ∀ x : Int, (Instr.checkKey e 9999 t (.int .i64 x)).run P w = .ok () w := fun x => MapKept.run_checkKey ht (by simp [MapKept.IsKey]) e 9998
    simp [n0, n1, h0, h1, o0, o1, run_part0 ht, c]
  find := fun a l w h => by
    have eq : ∀ b : Int × Int, (Op.equal kt (pairK a) (pairK b)).run P w = .ok (decide (a = b)) w := by
      intro b
      have c : ∀ x y : Int, (Op.equalIn 9999 t (.int .i64 x) (.int .i64 y)).run P w = .ok (x == y) w := fun x y => run_equalIn_int ht 9998 x y w
      unfold Op.equal Op.maxDepth Op.equalIn
      simp only [Sem.run_bind, run_underlying hu, Result.andThen, pairK]
      obtain ⟨a1, a2⟩ := a
      obtain ⟨b1, b2⟩ := b
      by_cases e1 : a1 = b1 <;> by_cases e2 : a2 = b2 <;> simp [hs, n0, n1, h0, h1, o0, o1, run_part0 ht, c, e1, e2]
    have ask : ∀ (l : List MapEntry) (i : Nat), (∀ x ∈ l, ∃ b, x.key = pairK b) →
        (∃ j x, l[j]? = some x ∧ x.key = pairK a ∧ (Instr.findAsking kt (pairK a) l i).run P w = .ok (some (i + j, x.val)) w) ∨ ((∀ x ∈ l, x.key ≠ pairK a) ∧ (Instr.findAsking kt (pairK a) l i).run P w = .ok none w) := by
      intro l
      induction l with
      | nil => intro i _; exact .inr ⟨by simp, by simp [Instr.findAsking]⟩
      | cons e es ih =>
        intro i hl
        obtain ⟨b, hb⟩ := hl e (by simp)
        by_cases hab : a = b
        · refine .inl ⟨0, e, rfl, by rw [hb, hab], ?_⟩
          subst hab
          simp [Instr.findAsking, hb, eq]
        · have hne : e.key ≠ pairK a := by
            rw [hb]; intro q; apply hab
            obtain ⟨a1, a2⟩ := a
            obtain ⟨b1, b2⟩ := b
            simp [pairK] at q ⊢; exact ⟨q.1.symm, q.2.symm⟩
          rcases ih (i + 1) (fun x hx => hl x (by simp [hx])) with ⟨j, x, h1, h2, h3⟩ | ⟨h1, h2⟩
          · refine .inl ⟨j + 1, x, by simpa using h1, h2, ?_⟩
            simp [Instr.findAsking, hb, eq, hab, h3]; omega
          · refine .inr ⟨fun x hx => ?_, ?_⟩
            · rcases List.mem_cons.1 hx with rfl | hx
              · exact hne
              · exact h1 x hx
            · simp [Instr.findAsking, hb, eq, hab, h2]
    cases l with
    | nil => exact .inr ⟨by simp, by simp [Instr.findKey, run_underlying hu, Instr.findNow]⟩
    | cons e es =>
      obtain ⟨b, hb⟩ := h e (by simp)
      have hn : Instr.findNow (.struct #[f0, f1]) (pairK a) (e :: es) 0 = none := by simp [Instr.findNow, Instr.sameNow]
      have hk : ∀ r, (Instr.findAsking kt (pairK a) (e :: es) 0).run P w = .ok r w → (Instr.findKey kt (pairK a) (e :: es)).run P w = .ok r w := by
        intro r hr
        simp only [Instr.findKey, Sem.run_bind, run_underlying hu, Result.andThen, hn, hr]
      rcases ask (e :: es) 0 h with ⟨j, x, h1, h2, h3⟩ | ⟨h1, h2⟩
      · rw [Nat.zero_add] at h3
        exact .inl ⟨j, x, h1, h2, hk _ h3⟩
      · exact .inr ⟨h1, hk _ h2⟩

/-- block b is a map with these entries -/
structure MapAt {κ : Type} (kv : κ → Value) (w : World) (b : Nat) (es : Array MapEntry) (clock : Nat) : Prop where
  blk : w.heap[b]? = some (.map es clock)
  stamped : MapKept.Stamped es clock
  keys : ∀ x ∈ es.toList, ∃ a, x.key = kv a

section
variable {κ : Type} {kv : κ → Value} {w : World} {b : Nat} {es : Array MapEntry} {clock : Nat}

theorem MapAt.lt (h : MapAt kv w b es clock) : b < w.heap.size := by
  rcases Nat.lt_or_ge b w.heap.size with g | g
  · exact g
  · have := h.blk; simp [Array.getElem?_eq_none g] at this

theorem MapAt.congr {w' : World} (h : MapAt kv w b es clock) (e : w'.heap[b]? = w.heap[b]?) : MapAt kv w' b es clock := ⟨by rw [e]; exact h.blk, h.stamped, h.keys⟩

theorem Only.setObj (w : World) (b : Nat) (o : Obj) : Only [b] w { w with heap := w.heap.setIfInBounds b o } :=
  ⟨rfl, rfl, rfl, by simp, fun k hk hn => by
    have : b ≠ k := by intro q; subst q; simp at hn
    simp [Array.getElem?_setIfInBounds, this]⟩

theorem does_makeMap {P : Program} {o : Oper} {a : Act} (kv : κ → Value) (t : TypeId) (ho : o.op = .makeMap t none) :
    does P o a w (fun v w' => v = .map (some w.heap.size) ∧ MapAt kv w' w.heap.size #[] 0 ∧ w' = w.alloc (.map #[] 0)) := by
  refine ⟨_, _, .inl ?_, rfl, ⟨(MapKept.heap_alloc w _).1, MapKept.stamped_empty _, by simp⟩, rfl⟩
  simp [execOp, ho, Instr.makeMap]

theorem does_lookup {P : Program} {o : Oper} {a : Act} (mt : TypeId) (x y : Operand) (ho : o.op = .lookup mt x y false) {kt et : TypeId} (K : KeyOk P kt kv) (hm : P.underlying mt = some (.map kt et)) (h : MapAt kv w b es clock)
    (hx : a.eval x = .map (some b)) {k : κ} (hy : a.eval y = kv k) {z : Value} (hz : (zeroValue et).run P w = .ok z w) :
    does P o a w (fun v w' => ((∃ e ∈ es.toList, e.key = kv k ∧ v = e.val) ∨ ((∀ e ∈ es.toList, e.key ≠ kv k) ∧ v = z)) ∧ w = w') := by
  rcases K.find k es.toList w h.keys with ⟨i, e, h1, h2, h3⟩ | ⟨h1, h2⟩
  · refine ⟨e.val, w, .inl ?_, .inl ⟨e, List.mem_of_getElem? h1, h2, rfl⟩, rfl⟩
    simp [execOp, ho, hx, hy, Instr.lookup, run_underlying hm, MapKept.run_getObj_map h.blk, K.check, h3]
  · refine ⟨z, w, .inl ?_, .inr ⟨h1, rfl⟩, rfl⟩
    simp [execOp, ho, hx, hy, Instr.lookup, run_underlying hm, MapKept.run_getObj_map h.blk, K.check, h2, hz]

/-- the entries after a store -/
def isPut (kv : κ → Value) (es es' : Array MapEntry) (clock clock' : Nat) (k : κ) (v : Value) : Prop :=
  (clock' = clock ∧ ∃ i e, es[i]? = some e ∧ e.key = kv k ∧ es' = es.modify i (fun e => { e with key := kv k, val := v })) ∨
  (clock' = clock + 1 ∧ (∀ e ∈ es.toList, e.key ≠ kv k) ∧ es' = es.push { key := kv k, val := v, born := clock })

theorem nodup_idx {α β : Type} (f : α → β) {l : List α} (h : (l.map f).Nodup) {i j : Nat} {x y : α} (hi : l[i]? = some x) (hj : l[j]? = some y) (e : f x = f y) : i = j := by
  have hp := List.pairwise_iff_getElem.1 h
  obtain ⟨hi', ex⟩ := List.getElem?_eq_some_iff.1 hi
  obtain ⟨hj', ey⟩ := List.getElem?_eq_some_iff.1 hj
  rcases Nat.lt_trichotomy i j with g | g | g
  · exact (hp i j (by simpa using hi') (by simpa using hj') g (by simp [ex, ey, e])).elim
  · exact g
  · exact (hp j i (by simpa using hj') (by simpa using hi') g (by simp [ex, ey, e])).elim

theorem key_idx {l : List MapEntry} (h : (l.map (·.key)).Nodup) {i j : Nat} {x y : MapEntry} (hi : l[i]? = some x) (hj : l[j]? = some y) (e : x.key = y.key) : i = j := nodup_idx _ h hi hj e
theorem born_idx {l : List MapEntry} (h : (l.map (·.born)).Nodup) {i j : Nat} {x y : MapEntry} (hi : l[i]? = some x) (hj : l[j]? = some y) (e : x.born = y.born) : i = j := nodup_idx _ h hi hj e
theorem key_one {l : List MapEntry} (h : (l.map (·.key)).Nodup) {x y : MapEntry} (hx : x ∈ l) (hy : y ∈ l) (e : x.key = y.key) : x = y := by
  obtain ⟨i, hi⟩ := List.mem_iff_getElem?.1 hx
  obtain ⟨j, hj⟩ := List.mem_iff_getElem?.1 hy
  have := key_idx h hi hj e
  subst this; rw [hi] at hj; exact Option.some.inj hj

theorem isPut.stamped {es' : Array MapEntry} {clock' : Nat} {k : κ} {v : Value} (h : isPut kv es es' clock clock' k v) (hs : MapKept.Stamped es clock) : MapKept.Stamped es' clock' := by
  rcases h with ⟨rfl, i, e, h1, h2, rfl⟩ | ⟨rfl, h1, rfl⟩
  · exact MapKept.stamped_modify hs i _ (fun _ _ => rfl) (fun x _ hx => by rw [h1] at hx; cases hx; exact h2.symm)
  · exact MapKept.stamped_push hs h1

theorem isPut.mem {es' : Array MapEntry} {clock' : Nat} {k : κ} {v : Value} (h : isPut kv es es' clock clock' k v) (hs : MapKept.Stamped es clock) :
    (∀ x ∈ es'.toList, (x.key = kv k ∧ x.val = v) ∨ (x.key ≠ kv k ∧ x ∈ es.toList)) ∧ (∀ x ∈ es.toList, x.key ≠ kv k → x ∈ es'.toList) ∧ ∃ x ∈ es'.toList, x.key = kv k ∧ x.val = v := by
  rcases h with ⟨rfl, i, e, h1, h2, rfl⟩ | ⟨rfl, h1, rfl⟩
  · have hil : es.toList[i]? = some e := by simpa using h1
    refine ⟨fun x hx => ?_, fun x hx hk => ?_, ?_⟩
    · obtain ⟨j, hj⟩ := List.mem_iff_getElem?.1 hx
      rw [Array.getElem?_toList, Array.getElem?_modify] at hj
      by_cases hij : i = j
      · subst hij
        rw [if_pos rfl, h1] at hj
        simp at hj; subst hj
        exact .inl ⟨rfl, rfl⟩
      · rw [if_neg hij] at hj
        have hj' : es.toList[j]? = some x := by simpa using hj
        exact .inr ⟨fun q => hij (key_idx hs.2.2 hil hj' (by rw [h2, q])), List.mem_of_getElem? hj'⟩
    · obtain ⟨j, hj⟩ := List.mem_iff_getElem?.1 hx
      have hij : i ≠ j := by intro q; subst q; rw [hil] at hj; cases hj; exact hk h2
      refine List.mem_of_getElem? (i := j) ?_
      rw [Array.getElem?_toList, Array.getElem?_modify, if_neg hij]; simpa using hj
    · refine ⟨{ e with key := kv k, val := v }, List.mem_of_getElem? (i := i) ?_, rfl, rfl⟩
      rw [Array.getElem?_toList, Array.getElem?_modify, if_pos rfl, h1]; rfl
  · refine ⟨fun x hx => ?_, fun x hx _ => by simp at hx ⊢; exact .inl hx, ⟨_, by simp; exact .inr rfl, rfl, rfl⟩⟩
    simp at hx
    rcases hx with hx | rfl
    · exact .inr ⟨h1 x (by simpa using hx), by simpa using hx⟩
    · exact .inl ⟨rfl, rfl⟩

theorem MapAt.put {es' : Array MapEntry} {clock' : Nat} {k : κ} {v : Value} (h : MapAt kv w b es clock) (hp : isPut kv es es' clock clock' k v) : MapAt kv { w with heap := w.heap.setIfInBounds b (.map es' clock') } b es' clock' :=
  ⟨(MapKept.heap_set h.blk).1, hp.stamped h.stamped, fun x hx => by
    rcases (hp.mem h.stamped).1 x hx with ⟨h1, _⟩ | ⟨_, h1⟩
    · exact ⟨k, h1⟩
    · exact h.keys x h1⟩

theorem does_mapUpdate {P : Program} {o : Oper} {a : Act} (mt : TypeId) (x y z : Operand) (ho : o.op = .mapUpdate mt x y z) {kt et : TypeId} (K : KeyOk P kt kv) (hm : P.underlying mt = some (.map kt et)) (h : MapAt kv w b es clock)
    (hx : a.eval x = .map (some b)) {k : κ} (hy : a.eval y = kv k) {v : Value} (hz : a.eval z = v) :
    does P o a w (fun u w' => u = undef ∧ ∃ es' clock', isPut kv es es' clock clock' k v ∧ MapAt kv w' b es' clock' ∧ Only [b] w w' ∧ w'.heap.size = w.heap.size) := by
  rcases K.find k es.toList w h.keys with ⟨i, e, h1, h2, h3⟩ | ⟨h1, h2⟩
  · have hp : isPut kv es (es.modify i (fun e => { e with key := kv k, val := v })) clock clock k v := .inl ⟨rfl, i, e, by simpa using h1, h2, rfl⟩
    refine ⟨undef, _, .inr ⟨?_, rfl⟩, rfl, _, _, hp, h.put hp, Only.setObj _ _ _, by simp⟩
    have h1' : es[i]? = some e := by simpa using h1
    simp [execOp, ho, hx, hy, hz, Instr.mapUpdate, run_underlying hm, MapKept.run_getObj_map h.blk, MapKept.run_setObj_map _ h.blk, K.check, h3, h1', h2, Instr.keyThatStays, K.bits]
  · have hp : isPut kv es (es.push { key := kv k, val := v, born := clock }) clock (clock + 1) k v := .inr ⟨rfl, h1, rfl⟩
    refine ⟨undef, _, .inr ⟨?_, rfl⟩, rfl, _, _, hp, h.put hp, Only.setObj _ _ _, by simp⟩
    simp [execOp, ho, hx, hy, hz, Instr.mapUpdate, run_underlying hm, MapKept.run_getObj_map h.blk, MapKept.run_setObj_map _ h.blk, K.check, h2]

/-- 'm[k], .. = ..' in two steps: the entry of a key that is not there yet -/
theorem does_mapEntry_new {P : Program} {o : Oper} {a : Act} (mt : TypeId) (x y : Operand) (ho : o.op = .mapEntry mt x y) {kt et : TypeId} (K : KeyOk P kt kv) (hm : P.underlying mt = some (.map kt et)) (h : MapAt kv w b es clock)
    (hx : a.eval x = .map (some b)) {k : κ} (hy : a.eval y = kv k) (hn : ∀ e ∈ es.toList, e.key ≠ kv k) {z : Value} (hz : (zeroValue et).run P w = .ok z w) :
    does P o a w (fun u w' => u = .tuple #[z, .int .i64 (clock : Int)] ∧ MapAt kv w' b (es.push { key := kv k, val := z, born := clock }) (clock + 1) ∧ Only [b] w w' ∧ w'.heap.size = w.heap.size) := by
  rcases K.find k es.toList w h.keys with ⟨i, e, h1, h2, h3⟩ | ⟨h1, h2⟩
  · exact absurd h2 (hn e (List.mem_of_getElem? h1))
  · have hp : isPut kv es (es.push { key := kv k, val := z, born := clock }) clock (clock + 1) k z := .inr ⟨rfl, h1, rfl⟩
    refine ⟨_, _, .inl ?_, rfl, h.put hp, Only.setObj _ _ _, by simp⟩
    simp [execOp, ho, hx, hy, Instr.mapEntry, run_underlying hm, MapKept.run_getObj_map h.blk, MapKept.run_setObj_map _ h.blk, K.check, h2, hz, goInt]

theorem does_entryStore {P : Program} {o : Oper} {a : Act} (mt : TypeId) (x y z : Operand) (ho : o.op = .entryStore mt x y z) {k : κ} {u v : Value} (h : MapAt kv w b (es.push { key := kv k, val := u, born := clock }) (clock + 1))
    (hx : a.eval x = .map (some b)) (hy : a.eval y = .int .i64 (clock : Int)) (hz : a.eval z = v) (hs : MapKept.Stamped es clock) :
    does P o a w (fun t w' => t = undef ∧ MapAt kv w' b (es.push { key := kv k, val := v, born := clock }) (clock + 1) ∧ Only [b] w w' ∧ w'.heap.size = w.heap.size) := by
  have hf : (es.push { key := kv k, val := u, born := clock }).findIdx? (fun e => ((e.born : Nat) : Int) == (clock : Int)) = some es.size := by
    rw [Array.findIdx?_eq_some_iff_getElem]
    refine ⟨by simp, by simp, fun j hj => ?_⟩
    have hj' : j < es.size := hj
    have := hs.1 es[j] (by simp)
    simp [Array.getElem_push_lt hj']; omega
  have he : (es.push { key := kv k, val := u, born := clock }).modify es.size (fun e => { e with val := v }) = es.push { key := kv k, val := v, born := clock } := by
    apply Array.ext_getElem?
    intro j
    rw [Array.getElem?_modify]
    by_cases hj : es.size = j
    · subst hj; simp
    · simp [hj, Array.getElem?_push, Ne.symm hj]
  refine ⟨undef, _, .inr ⟨?_, rfl⟩, rfl, ⟨(MapKept.heap_set h.blk).1, ?_, ?_⟩, Only.setObj _ _ _, by simp⟩
  · simp [execOp, ho, hx, hy, hz, Instr.entryStore, MapKept.run_getObj_map h.blk, MapKept.run_setObj_map _ h.blk, asInt, asIntOf, hf, he]
  · have := MapKept.stamped_modify h.stamped es.size (fun e => { e with val := v }) (fun _ _ => rfl) (fun _ _ _ => rfl)
    rwa [he] at this
  · intro e hx
    simp at hx
    rcases hx with hx | rfl
    · exact h.keys e (by simp; exact .inl hx)
    · exact ⟨k, rfl⟩

/-- 'delete(m, k)' -/
theorem does_delete {P : Program} {o : Oper} {a : Act} (mt t2 : TypeId) (x y : Operand) (ho : o.op = .call { callee := .builtin .delete, args := #[x, y], argTypes := #[mt, t2] }) {kt et : TypeId} (K : KeyOk P kt kv) (hm : P.underlying mt = some (.map kt et)) (h : MapAt kv w b es clock)
    (hx : a.eval x = .map (some b)) {k : κ} (hy : a.eval y = kv k) :
    does P o a w (fun u w' => u = .tuple #[] ∧ ∃ es', (∀ e, e ∈ es'.toList ↔ e ∈ es.toList ∧ e.key ≠ kv k) ∧ MapAt kv w' b es' clock ∧ Only [b] w w' ∧ w'.heap.size = w.heap.size) := by
  rcases K.find k es.toList w h.keys with ⟨i, e, h1, h2, h3⟩ | ⟨h1, h2⟩
  · have hl : (es.eraseIdxIfInBounds i).toList = es.toList.eraseIdx i := by
      unfold Array.eraseIdxIfInBounds
      split
      · simp only [Array.toList_eraseIdx]
      · rename_i hn; rw [List.eraseIdx_of_length_le (by simpa using hn)]
    have hm' : ∀ x, x ∈ (es.eraseIdxIfInBounds i).toList ↔ x ∈ es.toList ∧ x.key ≠ kv k := by
      intro x
      rw [hl, List.mem_eraseIdx_iff_getElem?]
      constructor
      · rintro ⟨j, hj, hx⟩
        exact ⟨List.mem_of_getElem? hx, fun q => hj (key_idx h.stamped.2.2 hx h1 (by rw [h2, q]))⟩
      · rintro ⟨hx, hk⟩
        obtain ⟨j, hj⟩ := List.mem_iff_getElem?.1 hx
        exact ⟨j, fun q => by subst q; rw [hj] at h1; cases h1; exact hk h2, hj⟩
    refine ⟨_, _, .inl ?_, rfl, _, hm', ⟨(MapKept.heap_set h.blk).1, MapKept.stamped_erase h.stamped i, fun x hx => h.keys x ((hm' x).1 hx).1⟩, Only.setObj _ _ _, by simp⟩
    simp [execOp, ho, hx, hy, resolve, invoke, builtin, Builtin.delete_, run_underlying hm, MapKept.run_getObj_map h.blk, MapKept.run_setObj_map _ h.blk, K.check, h3]
  · refine ⟨_, _, .inl ?_, rfl, es, fun x => ⟨fun hx => ⟨hx, h1 x hx⟩, fun hx => hx.1⟩, ⟨(MapKept.heap_set h.blk).1, h.stamped, h.keys⟩, Only.setObj _ _ _, by simp⟩
    simp [execOp, ho, hx, hy, resolve, invoke, builtin, Builtin.delete_, run_underlying hm, MapKept.run_getObj_map h.blk, MapKept.run_setObj_map _ h.blk, K.check, h2]

/-- block r is an iterator over the map of block b -/
def IterAt (w : World) (r b since : Nat) (seen : Array Nat) (c0 : Nat) : Prop := w.heap[r]? = some (.mapIter (some b) since seen c0)

theorem IterAt.lt {r since c0 : Nat} {seen : Array Nat} (h : IterAt w r b since seen c0) : r < w.heap.size := by
  rcases Nat.lt_or_ge r w.heap.size with g | g
  · exact g
  · unfold IterAt at h; simp [Array.getElem?_eq_none g] at h

theorem does_range {P : Program} {o : Oper} {a : Act} (mt : TypeId) (x : Operand) (ho : o.op = .range mt x) {kt et : TypeId} (hm : P.underlying mt = some (.map kt et)) (h : MapAt kv w b es clock) (hx : a.eval x = .map (some b)) :
    does P o a w (fun v w' => v = .pointer (some ⟨w.heap.size, 0, none⟩) ∧ IterAt w' w.heap.size b clock #[] clock ∧ w' = w.alloc (.mapIter (some b) clock #[] clock)) := by
  refine ⟨_, _, .inl ?_, rfl, (MapKept.heap_alloc w _).1, rfl⟩
  simp [execOp, ho, hx, run_range_map w mt kt et b es clock hm h.blk]

theorem does_next {P : Program} {o : Oper} {a : Act} (x : Operand) (ho : o.op = .next x false) {r : Nat} {seen : Array Nat} (h : MapAt kv w b es clock) (hi : IterAt w r b clock seen clock) (hx : a.eval x = .pointer (some ⟨r, 0, none⟩)) :
    does P o a w (fun v w' => (v = .tuple #[.bool false] ∧ w = w' ∧ ∀ e ∈ es.toList, e.born ∈ seen.toList) ∨
      ∃ e ∈ es.toList, e.born ∉ seen.toList ∧ v = .tuple #[.bool true, e.key, e.val] ∧ Only [r] w w' ∧ IterAt w' r b clock (seen.push e.born) clock ∧ w'.heap.size = w.heap.size) := by
  rcases run_next_at (P := P) w o.type r b clock clock seen es clock hi h.blk h.stamped.1 (Nat.le_refl _) with ⟨h1, h2⟩ | ⟨e, he, w1, hw1, h2⟩
  · refine ⟨_, w, .inl ?_, .inl ⟨rfl, rfl, fun e he => ?_⟩⟩
    · simp [execOp, ho, hx, h2]
    · have hz : (leftOf es seen).toList = [] := List.eq_nil_of_length_eq_zero (by simpa using h1)
      apply Classical.byContradiction
      intro hn
      have : e ∈ (leftOf es seen).toList := by simp [leftOf] at he hn ⊢; exact ⟨he, hn⟩
      rw [hz] at this; cases this
  · have he' : e ∈ es.toList ∧ e.born ∉ seen.toList := by simpa [leftOf] using he
    refine ⟨.tuple #[.bool true, e.key, e.val], ChangeMaps.setBlock w1 r (.mapIter (some b) clock (seen.push e.born) clock), .inl ?_, .inr ⟨e, he'.1, he'.2, rfl, ?_, ?_, ?_⟩⟩
    · simp [execOp, ho, hx, h2]
    · rcases hw1 with rfl | rfl
      · exact Only.setObj _ _ _
      · exact (Only.refl _ w).drew.trans1 (Only.setObj w.drew r _)
    · have : r < w1.heap.size := by rcases hw1 with rfl | rfl <;> exact hi.lt
      simp [IterAt, ChangeMaps.setBlock, this]
    · rcases hw1 with rfl | rfl <;> simp [ChangeMaps.setBlock] <;> rfl

theorem does_entry {P : Program} {o : Oper} {a : Act} (x : Operand) (ho : o.op = .entry x) {r : Nat} {seen : Array Nat} {e : MapEntry} (h : MapAt kv w b es clock) (hi : IterAt w r b clock (seen.push e.born) clock) (he : e ∈ es.toList) (hx : a.eval x = .pointer (some ⟨r, 0, none⟩)) :
    does P o a w (fun v w' => v = .tuple #[e.key, e.val] ∧ w = w') := by
  refine ⟨_, w, .inl ?_, rfl, rfl⟩
  simp [execOp, ho, hx, run_entry_at (P := P) w r b clock seen es clock e hi h.blk he h.stamped.2.1]

/-- a map among the things that lie apart -/
def mapA (kv : κ → Value) (b : Nat) (es : Array MapEntry) (clock : Nat) : Ast := ⟨[b], fun w => MapAt kv w b es clock, fun _ _ hk h => h.congr (hk b (by simp))⟩
def iterA (r b since : Nat) (seen : Array Nat) (c0 : Nat) : Ast := ⟨[r], fun w => IterAt w r b since seen c0, fun _ _ hk h => by unfold IterAt at h ⊢; rw [hk r (by simp)]; exact h⟩
end
end Go.Proofs.YtcbdclhoekokpaaGreatDoor.M
