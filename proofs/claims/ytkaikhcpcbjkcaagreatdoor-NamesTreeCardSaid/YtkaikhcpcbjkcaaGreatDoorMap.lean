/- Maps: what lies in a map's block, and laws for the operations on maps. Keys: of one kind ('KeyOk'): integers, or structs of two integers. -/
import Derived.Test.YtkaikhcpcbjkcaaGreatDoorMem
import Derived.MapKept
import Derived.Laws.IdiomRangeMap
import Derived.Maps.RangeRun
import Derived.Test.YtkaikhcpcbjkcaaGreatDoorWk
import Derived.Test.YtkaikhcpcbjkcaaGreatDoorDr
import Derived.Laws.Externs
namespace Go.Proofs.YtkaikhcpcbjkcaaGreatDoor.M
open Go.RowKit
/-- how the keys of a map are found -/
structure KeyOk {κ : Type} (P : Program) (kt : TypeId) (kv : κ → Value) : Prop where
  inj : ∀ a b, kv a = kv b → a = b
  bits : ∀ a, Instr.sameBits 10000 (kv a) (kv a) = true
  check : ∀ (e : Bool) (a : κ) (w : World), (Instr.checkKey e 10000 kt (kv a)).run P w = .ok () w
  find : ∀ (a : κ) (l : List MapEntry) (w : World), (∀ x ∈ l, ∃ b, x.key = kv b) →
    (∃ i x, l[i]? = some x ∧ x.key = kv a ∧ (Instr.findKey kt (kv a) l).run P w = .ok (some (i, x.val)) w) ∨ ((∀ x ∈ l, x.key ≠ kv a) ∧ (Instr.findKey kt (kv a) l).run P w = .ok none w)
def intK (a : Int) : Value := .int .i64 a
/-- block b is a map with these entries -/
structure MapAt {κ : Type} (kv : κ → Value) (w : World) (b : Nat) (es : Array MapEntry) (clock : Nat) : Prop where
  blk : w.heap[b]? = some (.map es clock)
  stamped : MapKept.Stamped es clock
  keys : ∀ x ∈ es.toList, ∃ a, x.key = kv a
section
variable {κ : Type} {kv : κ → Value} {w : World} {b : Nat} {es : Array MapEntry} {clock : Nat}
theorem MapAt.lt (h : MapAt kv w b es clock) : b < w.heap.size := by
  rcases Nat.lt_or_ge b w.heap.size with g | g
  · exact g
  · have := h.blk; simp [Array.getElem?_eq_none g] at this
theorem MapAt.congr {w' : World} (h : MapAt kv w b es clock) (e : w'.heap[b]? = w.heap[b]?) : MapAt kv w' b es clock := ⟨by rw [e]; exact h.blk, h.stamped, h.keys⟩
theorem Only.setObj (w : World) (b : Nat) (o : Obj) : Only [b] w { w with heap := w.heap.setIfInBounds b o } :=
  ⟨rfl, rfl, rfl, by simp, fun k hk hn => by
    have : b ≠ k := by intro q; subst q; simp at hn
    simp [Array.getElem?_setIfInBounds, this]⟩
theorem does_makeMap {P : Program} {o : Oper} {a : Act} (kv : κ → Value) (t : TypeId) (ho : o.op = .makeMap t none) :
    does P o a w (fun v w' => v = .map (some w.heap.size) ∧ MapAt kv w' w.heap.size #[] 0 ∧ w' = w.alloc (.map #[] 0)) := by
  refine ⟨_, _, .inl ?_, rfl, ⟨(MapKept.heap_alloc w _).1, MapKept.stamped_empty _, by simp⟩, rfl⟩
  simp [execOp, ho, Instr.makeMap]
theorem does_lookup {P : Program} {o : Oper} {a : Act} (mt : TypeId) (x y : Operand) (ho : o.op = .lookup mt x y false) {kt et : TypeId} (K : KeyOk P kt kv) (hm : P.underlying mt = some (.map kt et)) (h : MapAt kv w b es clock)
    (hx : a.eval x = .map (some b)) {k : κ} (hy : a.eval y = kv k) {z : Value} (hz : (zeroValue et).run P w = .ok z w) :
    does P o a w (fun v w' => ((∃ e ∈ es.toList, e.key = kv k ∧ v = e.val) ∨ ((∀ e ∈ es.toList, e.key ≠ kv k) ∧ v = z)) ∧ w = w') := by
  rcases K.find k es.toList w h.keys with ⟨i, e, h1, h2, h3⟩ | ⟨h1, h2⟩
  · refine ⟨e.val, w, .inl ?_, .inl ⟨e, List.mem_of_getElem? h1, h2, rfl⟩, rfl⟩
    simp [execOp, ho, hx, hy, Instr.lookup, run_underlying hm, MapKept.run_getObj_map h.blk, K.check, h3]
  · refine ⟨z, w, .inl ?_, .inr ⟨h1, rfl⟩, rfl⟩
    simp [execOp, ho, hx, hy, Instr.lookup, run_underlying hm, MapKept.run_getObj_map h.blk, K.check, h2, hz]
/-- the entries after a store -/
def isPut (kv : κ → Value) (es es' : Array MapEntry) (clock clock' : Nat) (k : κ) (v : Value) : Prop :=
  (clock' = clock ∧ ∃ i e, es[i]? = some e ∧ e.key = kv k ∧ es' = es.modify i (fun e => { e with key := kv k, val := v })) ∨
  (clock' = clock + 1 ∧ (∀ e ∈ es.toList, e.key ≠ kv k) ∧ es' = es.push { key := kv k, val := v, born := clock })
theorem nodup_idx {α β : Type} (f : α → β) {l : List α} (h : (l.map f).Nodup) {i j : Nat} {x y : α} (hi : l[i]? = some x) (hj : l[j]? = some y) (e : f x = f y) : i = j := by
  have hp := List.pairwise_iff_getElem.1 h
  obtain ⟨hi', ex⟩ := List.getElem?_eq_some_iff.1 hi
  obtain ⟨hj', ey⟩ := List.getElem?_eq_some_iff.1 hj
  rcases Nat.lt_trichotomy i j with g | g | g
  · exact (hp i j (by simpa using hi') (by simpa using hj') g (by simp [ex, ey, e])).elim
  · exact g
  · exact (hp j i (by simpa using hj') (by simpa using hi') g (by simp [ex, ey, e])).elim
theorem key_idx {l : List MapEntry} (h : (l.map (·.key)).Nodup) {i j : Nat} {x y : MapEntry} (hi : l[i]? = some x) (hj : l[j]? = some y) (e : x.key = y.key) : i = j := nodup_idx _ h hi hj e
theorem born_idx {l : List MapEntry} (h : (l.map (·.born)).Nodup) {i j : Nat} {x y : MapEntry} (hi : l[i]? = some x) (hj : l[j]? = some y) (e : x.born = y.born) : i = j := nodup_idx _ h hi hj e
theorem key_one {l : List MapEntry} (h : (l.map (·.key)).Nodup) {x y : MapEntry} (hx : x ∈ l) (hy : y ∈ l) (e : x.key = y.key) : x = y := by
  obtain ⟨i, hi⟩ := List.mem_iff_getElem?.1 hx
  obtain ⟨j, hj⟩ := List.mem_iff_getElem?.1 hy
  have := key_idx h hi hj e
  subst this; rw [hi] at hj; exact Option.some.inj hj
theorem isPut.stamped {es' : Array MapEntry} {clock' : Nat} {k : κ} {v : Value} (h : isPut kv es es' clock clock' k v) (hs : MapKept.Stamped es clock) : MapKept.Stamped es' clock' := by
  rcases h with ⟨rfl, i, e, h1, h2, rfl⟩ | ⟨rfl, h1, rfl⟩
  · exact MapKept.stamped_modify hs i _ (fun _ _ => rfl) (fun x _ hx => by rw [h1] at hx; cases hx; exact h2.symm)
  · exact MapKept.stamped_push hs h1
theorem isPut.mem {es' : Array MapEntry} {clock' : Nat} {k : κ} {v : Value} (h : isPut kv es es' clock clock' k v) (hs : MapKept.Stamped es clock) :
    (∀ x ∈ es'.toList, (x.key = kv k ∧ x.val = v) ∨ (x.key ≠ kv k ∧ x ∈ es.toList)) ∧ (∀ x ∈ es.toList, x.key ≠ kv k → x ∈ es'.toList) ∧ ∃ x ∈ es'.toList, x.key = kv k ∧ x.val = v := by
  rcases h with ⟨rfl, i, e, h1, h2, rfl⟩ | ⟨rfl, h1, rfl⟩
  · have hil : es.toList[i]? = some e := by simpa using h1
    refine ⟨fun x hx => ?_, fun x hx hk => ?_, ?_⟩
    · obtain ⟨j, hj⟩ := List.mem_iff_getElem?.1 hx
      rw [Array.getElem?_toList, Array.getElem?_modify] at hj
      by_cases hij : i = j
      · subst hij
        rw [if_pos rfl, h1] at hj
        simp at hj; subst hj
        exact .inl ⟨rfl, rfl⟩
      · rw [if_neg hij] at hj
        have hj' : es.toList[j]? = some x := by simpa using hj
        exact .inr ⟨fun q => hij (key_idx hs.2.2 hil hj' (by rw [h2, q])), List.mem_of_getElem? hj'⟩
    · obtain ⟨j, hj⟩ := List.mem_iff_getElem?.1 hx
      have hij : i ≠ j := by intro q; subst q; rw [hil] at hj; cases hj; exact hk h2
      refine List.mem_of_getElem? (i := j) ?_
      rw [Array.getElem?_toList, Array.getElem?_modify, if_neg hij]; simpa using hj
    · refine ⟨{ e with key := kv k, val := v }, List.mem_of_getElem? (i := i) ?_, rfl, rfl⟩
      rw [Array.getElem?_toList, Array.getElem?_modify, if_pos rfl, h1]; rfl
  · refine ⟨fun x hx => ?_, fun x hx _ => by simp at hx ⊢; exact .inl hx, ⟨_, by simp; exact .inr rfl, rfl, rfl⟩⟩
    simp at hx
    rcases hx with hx | rfl
    · exact .inr ⟨h1 x (by simpa using hx), by simpa using hx⟩
    · exact .inl ⟨rfl, rfl⟩
theorem MapAt.put {es' : Array MapEntry} {clock' : Nat} {k : κ} {v : Value} (h : MapAt kv w b es clock) (hp : isPut kv es es' clock clock' k v) : MapAt kv { w with heap := w.heap.setIfInBounds b (.map es' clock') } b es' clock' :=
  ⟨(MapKept.heap_set h.blk).1, hp.stamped h.stamped, fun x hx => by
    rcases (hp.mem h.stamped).1 x hx with ⟨h1, _⟩ | ⟨_, h1⟩
    · exact ⟨k, h1⟩
    · exact h.keys x h1⟩
theorem does_mapUpdate {P : Program} {o : Oper} {a : Act} (mt : TypeId) (x y z : Operand) (ho : o.op = .mapUpdate mt x y z) {kt et : TypeId} (K : KeyOk P kt kv) (hm : P.underlying mt = some (.map kt et)) (h : MapAt kv w b es clock)
    (hx : a.eval x = .map (some b)) {k : κ} (hy : a.eval y = kv k) {v : Value} (hz : a.eval z = v) :
    does P o a w (fun u w' => u = undef ∧ ∃ es' clock', isPut kv es es' clock clock' k v ∧ MapAt kv w' b es' clock' ∧ Only [b] w w' ∧ w'.heap.size = w.heap.size) := by
  rcases K.find k es.toList w h.keys with ⟨i, e, h1, h2, h3⟩ | ⟨h1, h2⟩
  · have hp : isPut kv es (es.modify i (fun e => { e with key := kv k, val := v })) clock clock k v := .inl ⟨rfl, i, e, by simpa using h1, h2, rfl⟩
    refine ⟨undef, _, .inr ⟨?_, rfl⟩, rfl, _, _, hp, h.put hp, Only.setObj _ _ _, by simp⟩
    have h1' : es[i]? = some e := by simpa using h1
    simp [execOp, ho, hx, hy, hz, Instr.mapUpdate, run_underlying hm, MapKept.run_getObj_map h.blk, MapKept.run_setObj_map _ h.blk, K.check, h3, h1', h2, Instr.keyThatStays, K.bits]
  · have hp : isPut kv es (es.push { key := kv k, val := v, born := clock }) clock (clock + 1) k v := .inr ⟨rfl, h1, rfl⟩
    refine ⟨undef, _, .inr ⟨?_, rfl⟩, rfl, _, _, hp, h.put hp, Only.setObj _ _ _, by simp⟩
    simp [execOp, ho, hx, hy, hz, Instr.mapUpdate, run_underlying hm, MapKept.run_getObj_map h.blk, MapKept.run_setObj_map _ h.blk, K.check, h2]
/-- 'delete(m, k)' -/
theorem does_delete {P : Program} {o : Oper} {a : Act} (mt t2 : TypeId) (x y : Operand) (ho : o.op = .call { callee := .builtin .delete, args := #[x, y], argTypes := #[mt, t2] }) {kt et : TypeId} (K : KeyOk P kt kv) (hm : P.underlying mt = some (.map kt et)) (h : MapAt kv w b es clock)
    (hx : a.eval x = .map (some b)) {k : κ} (hy : a.eval y = kv k) :
    does P o a w (fun u w' => u = .tuple #[] ∧ ∃ es', (∀ e, e ∈ es'.toList ↔ e ∈ es.toList ∧ e.key ≠ kv k) ∧ MapAt kv w' b es' clock ∧ Only [b] w w' ∧ w'.heap.size = w.heap.size) := by
  rcases K.find k es.toList w h.keys with ⟨i, e, h1, h2, h3⟩ | ⟨h1, h2⟩
  · have hl : (es.eraseIdxIfInBounds i).toList = es.toList.eraseIdx i := by
      unfold Array.eraseIdxIfInBounds
      split
      · simp only [Array.toList_eraseIdx]
      · rename_i hn; rw [List.eraseIdx_of_length_le (by simpa using hn)]
    have hm' : ∀ x, x ∈ (es.eraseIdxIfInBounds i).toList ↔ x ∈ es.toList ∧ x.key ≠ kv k := by
      intro x
      rw [hl, List.mem_eraseIdx_iff_getElem?]
      constructor
      · rintro ⟨j, hj, hx⟩
        exact ⟨List.mem_of_getElem? hx, fun q => hj (key_idx h.stamped.2.2 hx h1 (by rw [h2, q]))⟩
      · rintro ⟨hx, hk⟩
        obtain ⟨j, hj⟩ := List.mem_iff_getElem?.1 hx
        exact ⟨j, fun q => by subst q; rw [hj] at h1; cases h1; exact hk h2, hj⟩
    refine ⟨_, _, .inl ?_, rfl, _, hm', ⟨(MapKept.heap_set h.blk).1, MapKept.stamped_erase h.stamped i, fun x hx => h.keys x ((hm' x).1 hx).1⟩, Only.setObj _ _ _, by simp⟩
    simp [execOp, ho, hx, hy, resolve, invoke, builtin, Builtin.delete_, run_underlying hm, MapKept.run_getObj_map h.blk, MapKept.run_setObj_map _ h.blk, K.check, h3]
  · refine ⟨_, _, .inl ?_, rfl, es, fun x => ⟨fun hx => ⟨hx, h1 x hx⟩, fun hx => hx.1⟩, ⟨(MapKept.heap_set h.blk).1, h.stamped, h.keys⟩, Only.setObj _ _ _, by simp⟩
    simp [execOp, ho, hx, hy, resolve, invoke, builtin, Builtin.delete_, run_underlying hm, MapKept.run_getObj_map h.blk, MapKept.run_setObj_map _ h.blk, K.check, h2]
/-- block r is an iterator over the map of block b -/
def IterAt (w : World) (r b since : Nat) (seen : Array Nat) (c0 : Nat) : Prop := w.heap[r]? = some (.mapIter (some b) since seen c0)
theorem IterAt.lt {r since c0 : Nat} {seen : Array Nat} (h : IterAt w r b since seen c0) : r < w.heap.size := by
  rcases Nat.lt_or_ge r w.heap.size with g | g
  · exact g
  · unfold IterAt at h; simp [Array.getElem?_eq_none g] at h
theorem does_range {P : Program} {o : Oper} {a : Act} (mt : TypeId) (x : Operand) (ho : o.op = .range mt x) {kt et : TypeId} (hm : P.underlying mt = some (.map kt et)) (h : MapAt kv w b es clock) (hx : a.eval x = .map (some b)) :
    does P o a w (fun v w' => v = .pointer (some ⟨w.heap.size, 0, none⟩) ∧ IterAt w' w.heap.size b clock #[] clock ∧ w' = w.alloc (.mapIter (some b) clock #[] clock)) := by
  refine ⟨_, _, .inl ?_, rfl, (MapKept.heap_alloc w _).1, rfl⟩
  simp [execOp, ho, hx, run_range_map w mt kt et b es clock hm h.blk]
theorem does_next {P : Program} {o : Oper} {a : Act} (x : Operand) (ho : o.op = .next x false) {r : Nat} {seen : Array Nat} (h : MapAt kv w b es clock) (hi : IterAt w r b clock seen clock) (hx : a.eval x = .pointer (some ⟨r, 0, none⟩)) :
    does P o a w (fun v w' => (v = .tuple #[.bool false] ∧ w = w' ∧ ∀ e ∈ es.toList, e.born ∈ seen.toList) ∨
      ∃ e ∈ es.toList, e.born ∉ seen.toList ∧ v = .tuple #[.bool true, e.key, e.val] ∧ Only [r] w w' ∧ IterAt w' r b clock (seen.push e.born) clock ∧ w'.heap.size = w.heap.size) := by
  rcases run_next_at (P := P) w o.type r b clock clock seen es clock hi h.blk h.stamped.1 (Nat.le_refl _) with ⟨h1, h2⟩ | ⟨e, he, w1, hw1, h2⟩
  · refine ⟨_, w, .inl ?_, .inl ⟨rfl, rfl, fun e he => ?_⟩⟩
    · simp [execOp, ho, hx, h2]
    · have hz : (leftOf es seen).toList = [] := List.eq_nil_of_length_eq_zero (by simpa using h1)
      apply Classical.byContradiction
      intro hn
      have : e ∈ (leftOf es seen).toList := by simp [leftOf] at he hn ⊢; exact ⟨he, hn⟩
      rw [hz] at this; cases this
  · have he' : e ∈ es.toList ∧ e.born ∉ seen.toList := by simpa [leftOf] using he
    refine ⟨.tuple #[.bool true, e.key, e.val], ChangeMaps.setBlock w1 r (.mapIter (some b) clock (seen.push e.born) clock), .inl ?_, .inr ⟨e, he'.1, he'.2, rfl, ?_, ?_, ?_⟩⟩
    · simp [execOp, ho, hx, h2]
    · rcases hw1 with rfl | rfl
      · exact Only.setObj _ _ _
      · exact (Only.refl _ w).drew.trans1 (Only.setObj w.drew r _)
    · have : r < w1.heap.size := by rcases hw1 with rfl | rfl <;> exact hi.lt
      simp [IterAt, ChangeMaps.setBlock, this]
    · rcases hw1 with rfl | rfl <;> simp [ChangeMaps.setBlock] <;> rfl
theorem does_entry {P : Program} {o : Oper} {a : Act} (x : Operand) (ho : o.op = .entry x) {r : Nat} {seen : Array Nat} {e : MapEntry} (h : MapAt kv w b es clock) (hi : IterAt w r b clock (seen.push e.born) clock) (he : e ∈ es.toList) (hx : a.eval x = .pointer (some ⟨r, 0, none⟩)) :
    does P o a w (fun v w' => v = .tuple #[e.key, e.val] ∧ w = w') := by
  refine ⟨_, w, .inl ?_, rfl, rfl⟩
  simp [execOp, ho, hx, run_entry_at (P := P) w r b clock seen es clock e hi h.blk he h.stamped.2.1]
end
end Go.Proofs.YtkaikhcpcbjkcaaGreatDoor.M
/- Maps as things: a map is a function from keys to values. Rules for the operations on maps. Conditions: each rule's own hypotheses. -/
namespace Go.Proofs.YtkaikhcpcbjkcaaGreatDoor.M
open Go.RowKit
section
variable {κ : Type} {kv : κ → Value}
/-- the entries es say f -/
def Reads (kv : κ → Value) (es : Array MapEntry) (f : κ → Option Value) : Prop := ∀ k v, f k = some v ↔ ∃ e ∈ es.toList, e.key = kv k ∧ e.val = v
def mapT (kv : κ → Value) (b : Nat) (f : κ → Option Value) : Th where
  at_ := fun w F => (F = fun k => k = b) ∧ ∃ es clock, MapAt kv w b es clock ∧ Reads kv es f
  fr := fun a ⟨e, es, c, h, r⟩ => ⟨e, es, c, h.congr (a.blk _ (by rw [e])), r⟩
  lt := fun ⟨e, es, c, h, _⟩ k hk => by rw [e] at hk; subst hk; exact h.lt
open Classical in
noncomputable def upd (f : κ → Option Value) (k : κ) (v : Option Value) : κ → Option Value := fun j => if j = k then v else f j
theorem upd_self {f : κ → Option Value} {k : κ} {v : Option Value} : upd f k v k = v := by simp [upd]
theorem upd_ne {f : κ → Option Value} {k j : κ} {v : Option Value} (h : j ≠ k) : upd f k v j = f j := by simp [upd, h]
theorem Sat.map {w : World} {As : List Th} (h : Sat w As) (i : Nat) {b : Nat} {f : κ → Option Value} (hi : As[i]? = some (mapT kv b f)) : ∃ es clock, MapAt kv w b es clock ∧ Reads kv es f := by
  obtain ⟨F, _, h⟩ := h.get i hi; exact h
theorem Sat.map_set {w w' : World} {As : List Th} (h : Sat w As) (i : Nat) {b : Nat} {f f' : κ → Option Value} (hi : As[i]? = some (mapT kv b f)) {es : Array MapEntry} {clock : Nat} (hm : MapAt kv w' b es clock) (hr : Reads kv es f') (ho : Only [b] w w') : Sat w' (As.set i (mapT kv b f')) :=
  h.step i hi fun F ⟨e, _⟩ => ⟨F, ⟨e, es, clock, hm, hr⟩, fun k hk => .inl hk, ho.agree (fun x hx => .inl (by simp only [List.mem_singleton] at hx; subst hx; rw [e]))⟩
theorem Reads.put {P : Program} {kt : TypeId} (K : KeyOk P kt kv) {es es' : Array MapEntry} {clock clock' : Nat} {f : κ → Option Value} (h : Reads kv es f) (hs : MapKept.Stamped es clock) {k : κ} {v : Value} (hp : isPut kv es es' clock clock' k v) : Reads kv es' (upd f k (some v)) := by
  intro j u
  obtain ⟨m1, m2, m3⟩ := hp.mem hs
  by_cases hj : j = k
  · subst hj
    rw [upd_self]
    constructor
    · intro e; cases e; exact m3
    · rintro ⟨e, he, hk, rfl⟩
      rcases m1 e he with ⟨_, h2⟩ | ⟨h2, _⟩
      · rw [h2]
      · exact absurd hk h2
  · rw [upd_ne hj, h j u]
    constructor
    · rintro ⟨e, he, hk, hv⟩
      exact ⟨e, m2 e he (fun q => hj (K.inj _ _ (hk.symm.trans q))), hk, hv⟩
    · rintro ⟨e, he, hk, hv⟩
      rcases m1 e he with ⟨h2, _⟩ | ⟨_, h2⟩
      · exact absurd (K.inj _ _ (hk.symm.trans h2)) hj
      · exact ⟨e, h2, hk, hv⟩
section
variable {P : Program} {n : Nat} {ops : Array Oper} {Q : Exit → Act → World → Prop} {rest : List Oper} {L : Env} {w : World} {d : Nat} {ty : TypeId} {pos : String} {aft : Array Edge}
theorem wl_makeMap (kv : κ → Value) {t : Nat} {As : List Th} (hS : Sat w As) (hd : Nat.blt d n = true) (hk : ∀ b w', Sat w' (mapT kv b (fun _ => none) :: As) → wl P n ops Q rest ((d, .map (some b)) :: L) w') : wl P n ops Q (⟨some d, .makeMap t none, ty, pos, aft, none⟩ :: rest) L w :=
  wl_does rfl hd (fun a _ => does_makeMap kv t rfl) (by
    rintro v w' ⟨rfl, h1, h2⟩
    have ho : Only [] w w' := by rw [h2]; exact (Only.refl _ _).alloc _
    exact hk _ _ (hS.new ho (A := mapT kv w.heap.size (fun _ => none)) ⟨rfl, _, _, h1, fun k v => by simp⟩ (fun k hk => by rw [hk]; exact Nat.le_refl _)))
theorem wl_lookup {mt kt et : TypeId} {x y : Operand} {b : Nat} {f : κ → Option Value} {As : List Th} {k : κ} {z : Value} (i : Nat) (hS : Sat w As) (K : KeyOk P kt kv) (hm : P.underlying mt = some (.map kt et)) (hi : As[i]? = some (mapT kv b f)) (hx : look L x = some (.map (some b))) (hy : look L y = some (kv k)) (hz : zeroOf P et = some (some z)) {u : Value} (hv : (f k).getD z = u) (hd : Nat.blt d n = true)
    (hk : wl P n ops Q rest ((d, u) :: L) w) : wl P n ops Q (⟨some d, .lookup mt x y false, ty, pos, aft, none⟩ :: rest) L w := by
  obtain ⟨es, c, h1, h2⟩ := hS.map i hi
  refine wl_does rfl hd (fun a ha => does_lookup mt x y rfl K hm h1 (ha.eval hx) (ha.eval hy) (run_zeroOf hz w)) ?_
  rintro v w' ⟨h3, rfl⟩
  have e : v = (f k).getD z := by
    rcases h3 with ⟨e, he, hkk, rfl⟩ | ⟨hn, rfl⟩
    · rw [(h2 k e.val).2 ⟨e, he, hkk, rfl⟩]; rfl
    · cases hf : f k with
      | none => rfl
      | some u => obtain ⟨e, he, hkk, _⟩ := (h2 k u).1 hf; exact absurd hkk (hn e he)
  subst e; subst hv
  exact hk
theorem wl_mapUpdate {mt kt et : TypeId} {x y z : Operand} {b : Nat} {f : κ → Option Value} {As : List Th} {k : κ} {v : Value} (i : Nat) (hS : Sat w As) (K : KeyOk P kt kv) (hm : P.underlying mt = some (.map kt et)) (hi : As[i]? = some (mapT kv b f)) (hx : look L x = some (.map (some b))) (hy : look L y = some (kv k)) (hz : look L z = some v)
    (hk : ∀ w', Sat w' (As.set i (mapT kv b (upd f k (some v)))) → wl P n ops Q rest L w') : wl P n ops Q (⟨none, .mapUpdate mt x y z, ty, pos, aft, none⟩ :: rest) L w := by
  obtain ⟨es, c, h1, h2⟩ := hS.map i hi
  refine wl_does rfl rfl (fun a ha => does_mapUpdate mt x y z rfl K hm h1 (ha.eval hx) (ha.eval hy) (ha.eval hz)) ?_
  rintro _ w' ⟨rfl, es', c', hp, h3, h4, _⟩
  exact hk w' (hS.map_set i hi h3 (h2.put K h1.stamped hp) h4)
end
end
end Go.Proofs.YtkaikhcpcbjkcaaGreatDoor.M
/- Rules for slices. Conditions: each rule's own hypotheses. -/
namespace Go.Proofs.YtkaikhcpcbjkcaaGreatDoor.M
open Go.RowKit
theorem Sat.drew {w : World} {As : List Th} (h : Sat w As) : Sat w.drew As := h.only ((Only.refl [] w).drew)
section
variable {P : Program} {n : Nat} {ops : Array Oper} {Q : Exit → Act → World → Prop} {rest : List Oper} {L : Env} {w : World} {d : Nat} {ty : TypeId} {pos : String} {aft : Array Edge}
theorem Sat.own_shape {As : List Th} (hS : Sat w As) (i : Nat) {v : Value} {m size : Nat} {xs : List Value} (hi : As[i]? = some (ownT v m size xs)) : ∃ ao cap, v = .slice ao m cap ∧ m ≤ cap ∧ xs.length = m * size := by
  obtain ⟨f, h⟩ := hS.own i hi
  obtain ⟨a, c, h1, h2⟩ := h.shape
  exact ⟨a, c, h1, h2, h.1⟩
theorem Sat.own_one {As : List Th} (hS : Sat w As) (i : Nat) {v : Value} {m size : Nat} {xs : List Value} (hi : As[i]? = some (ownT v m size xs)) : v.oneCell' = true := by
  obtain ⟨ao, cap, rfl, _⟩ := hS.own_shape i hi
  rfl
/-- an owned slice that is not empty: where it lies -/
theorem Sat.own_at {As : List Th} (hS : Sat w As) (i : Nat) {v : Value} {m size : Nat} {xs : List Value} (hi : As[i]? = some (ownT v m size xs)) (hm : 0 < m) : ∃ b cap, v = .slice (some ⟨b, 0, none⟩) m cap ∧ m ≤ cap := by
  obtain ⟨f, h⟩ := hS.own i hi
  obtain ⟨b, cap, sp, h1, h2, _⟩ := h.row hm
  exact ⟨b, cap, h1, h2⟩
theorem Sat.ocell {As : List Th} (hS : Sat w As) (i : Nat) {v u : Value} {m size b o k cap m' : Nat} {xs : List Value} (hi : As[i]? = some (ownT v m size xs)) (hv : v = .slice (some ⟨b, o, none⟩) m' cap) (hx : xs[k]? = some u) : w.cell? ⟨b, k, none⟩ = some u := by
  obtain ⟨f, h⟩ := hS.own i hi
  subst hv
  exact h.cell hx
theorem wl_lenO {As : List Th} (i : Nat) (hS : Sat w As) {x : Operand} {t e m size : Nat} {v : Value} {xs : List Value} (hu : P.underlying t = some (.slice e)) (hi : As[i]? = some (ownT v m size xs)) (hx : look L x = some v) (hd : Nat.blt d n = true) (hk : wl P n ops Q rest ((d, .int .i64 (m : Int)) :: L) w) : wl P n ops Q (⟨some d, .call ⟨.builtin .len, #[x], #[t]⟩, ty, pos, aft, none⟩ :: rest) L w := by
  obtain ⟨ao, cap, rfl, _⟩ := hS.own_shape i hi
  exact wl_lenL hu hx hd hk
/-- &x[j], x owned -/
theorem wl_indexO {As : List Th} (i j : Nat) (hS : Sat w As) {x y : Operand} {t sz m size : Nat} {k : IntKind} {a : Int} {v : Value} {xs : List Value} (hi : As[i]? = some (ownT v m size xs)) (hx : look L x = some v) (hy : look L y = some (.int k a)) (ha : a = (j : Int)) (hj : j < m) (hs : elemSz P t = some sz) (hd : Nat.blt d n = true)
    (hk : ∀ b cap, v = .slice (some ⟨b, 0, none⟩) m cap → wl P n ops Q rest ((d, ptrV b (j * sz)) :: L) w) : wl P n ops Q (⟨some d, .indexAddr t x y, ty, pos, aft, none⟩ :: rest) L w := by
  obtain ⟨b, cap, rfl, _⟩ := hS.own_at i hi (by omega)
  refine wl_indexAddr j hx hy ha hj hs hd ?_
  rw [Nat.zero_add]
  exact hk b cap rfl
/-- append(s, x...), both owned; or x read in any world with this heap -/
theorem wl_append {As : List Th} (i : Nat) (hS : Sat w As) {t t2 e size bytes m q : Nat} {s x : Operand} {z sv xv : Value} {d2 : TypeDesc} {xs news : List Value} (hi : As[i]? = some (ownT sv m size xs)) (hs : look L s = some sv) (hx : look L x = some xv) (hu : P.underlying t = some (.slice e)) (hu2 : P.underlying t2 = some d2) (hd2 : ∀ k, d2 ≠ .int k)
    (hif : (P.info? e).map (fun i => (i.zero, i.size, i.bytes)) = some (some z, size, bytes)) (hz : z.cells.size = size) (h0 : 0 < size) (hx1 : ∀ w1, (Builtin.lenOf xv).run P w1 = .ok q w1) (hx2 : ∀ w1 : World, w1.heap = w.heap → (Builtin.firstCells size q xv).run P w1 = .ok news.toArray w1) (hnl : news.length = q * size) (h1 : allOne news = true)
    (hb : (m + q) * bytes ≤ 140737488355328) (hm : m + q ≤ 9223372036854775807) (hd : Nat.blt d n = true) (hk : ∀ v w', Sat w' (As.set i (ownT v (m + q) size (xs ++ news))) → wl P n ops Q rest ((d, v) :: L) w') : wl P n ops Q (⟨some d, .call ⟨.builtin .append, #[s, x], #[t, t2]⟩, ty, pos, aft, none⟩ :: rest) L w := by
  obtain ⟨F, h⟩ := hS.own i hi
  refine wl_does rfl hd (R := fun v w' => Sat w' (As.set i (ownT v (m + q) size (xs ++ news)))) (fun a ha => ?_) (fun v w' hR => hk v w' hR)
  refine (does_append t t2 s x rfl (ha.eval hs) (ha.eval hx) h hu hu2 hd2 hif hz h0 hx1 hx2 hnl (allOne_spec h1) hb hm).mono ?_
  rintro v w' ⟨foot', hown, ho, hf, _⟩
  have hfoot : ∀ foot, Own w sv m size xs foot → foot = F := by
    intro foot h'
    obtain ⟨_, ⟨e1, _, rfl⟩ | ⟨b1, c1, s1, e1, _, _, _, rfl⟩⟩ := h
    · obtain ⟨_, ⟨e2, _, rfl⟩ | ⟨b2, c2, s2, e2, _, _, _, rfl⟩⟩ := h'
      · rfl
      · rw [e1] at e2; cases e2
    · obtain ⟨_, ⟨e2, _, rfl⟩ | ⟨b2, c2, s2, e2, _, _, _, rfl⟩⟩ := h'
      · rw [e1] at e2; cases e2
      · rw [e1] at e2; cases e2; rfl
  exact hS.own_set i hi fun foot h' => by rw [hfoot foot h'] at *; exact ⟨foot', hown, ho, hf⟩
theorem ev_loadA {x : Operand} {t b o m : Nat} {cs : List Value} (hx : look L x = some (ptrV b o)) (ha : aggB P t = some true) (hs : szOf P t = some m) (hb : Blk w b cs) (hm : o + m ≤ cs.length) {vs : List Value} (hvs : (cs.drop o).take m = vs) : Ev P L w ⟨some d, .load t x, ty, pos, aft, none⟩ (.agg vs.toArray) := by
  subst hvs
  exact fun ρ hρ => by simp [execOp, hρ _ _ hx, Instr.loadAt, Instr.sureAddr, loadVar, aggB_true ha, run_sizeOf hs, run_loadCells_blk hb o m hm]
theorem ev_build {t : Nat} {parts : List (Nat × Operand)} {vs : List Value} {V : Value} (hx : looks L (parts.map (·.2)) = some vs) (hr : ∀ w, (Instr.build t ((parts.map (·.1)).zip vs).toArray).run P w = .ok V w) : Ev P L w ⟨some d, .build t parts.toArray, ty, pos, aft, none⟩ V := fun ρ hρ => by
  have hev : ∀ (ps : List Operand) (us : List Value), looks L ps = some us → ps.map ρ = us := by
    intro ps
    induction ps with
    | nil => intro us h; simp [looks] at h; subst h; rfl
    | cons p ps ih =>
      intro us h
      simp only [looks] at h
      cases h1 : look L p with
      | none => simp [h1] at h
      | some v =>
        cases h2 : looks L ps with
        | none => simp [h1, h2] at h
        | some vs => simp [h1, h2] at h; subst h; simp [hρ _ _ h1, ih vs h2]
  have h1 := hev _ _ hx
  have he : (parts.toArray.map fun x => (x.1, ρ x.2)) = ((parts.map (·.1)).zip vs).toArray := by
    rw [← h1]
    apply Array.ext'
    simp
    clear hx hr h1 hev
    induction parts with
    | nil => rfl
    | cons p ps ih => simp [ih]
  have hr' := hr w
  rw [← he] at hr'
  simp only [execOp, Sem.run_bind, hr']
  rfl
theorem wl_makeFunc {f : Nat} {cap : List Operand} {vs : List Value} (hx : looks L cap = some vs) (hd : Nat.blt d n = true) (hk : wl P n ops Q rest ((d, .func (.func f) #[] vs.toArray) :: L) w) : wl P n ops Q (⟨some d, .makeFunc (.func f) #[] cap.toArray, ty, pos, aft, none⟩ :: rest) L w := by
  refine wl_does rfl hd (R := fun v w' => v = .func (.func f) #[] vs.toArray ∧ w' = w) (fun a ha => ⟨_, _, .inl ?_, rfl, rfl⟩) ?_
  · have h1 := ha.evals hx
    simp [execOp, Instr.makeFunc, h1]
  · rintro v w' ⟨rfl, rfl⟩; exact hk
/-- the places of some fields of a struct: offset and size -/
def structPl (P : Program) (t : Nat) (idx : List Nat) : Option (List (Nat × Nat)) := match P.underlying t with
  | some (.struct fs) => idx.mapM fun i => match fs[i]? with
    | some f => (szOf P f.type).map fun n => (f.offset, n)
    | none => none
  | _ => none
def allSz (P : Program) (t : Nat) : Bool := match P.underlying t with
  | some (.struct fs) => fs.toList.all fun f => (szOf P f.type).isSome
  | _ => false
def fillL (z : List Value) : List (Nat × Nat) → List Value → List Value
  | p :: ps, v :: vs => fillL (splice z p.1 v.cells.toList) ps vs
  | _, _ => z
def fillOk (m : Nat) : List (Nat × Nat) → List Value → Bool
  | p :: ps, v :: vs => Nat.beq v.cells.size p.2 && Nat.ble (p.1 + p.2) m && fillOk m ps vs
  | [], [] => true
  | _, _ => false
theorem fold_splice : ∀ (vs : List Value) (k off : Nat) (cs : Array Value), off + k + vs.length ≤ cs.size → ((vs.zipIdx k).foldl (fun cs (c, j) => cs.setIfInBounds (off + j) c) cs).toList = splice cs.toList (off + k) vs
  | [], k, off, cs, _ => by simp [splice]
  | v :: vs, k, off, cs, h => by
    simp only [List.zipIdx_cons, List.foldl_cons]
    rw [fold_splice vs (k + 1) off _ (by simp at h ⊢; omega)]
    simp only [Array.toList_setIfInBounds]
    have e := list_seg_step cs.toList (off + k) v vs (by simp at h ⊢; omega)
    unfold splice
    rw [← Nat.add_assoc]
    simpa using e
theorem fill_fillL (place : Nat → Option (Nat × Nat)) : ∀ (idx : List Nat) (pls : List (Nat × Nat)) (vs : List Value) (cells : Array Value), idx.map place = pls.map some → fillOk cells.size pls vs = true → Instr.fill place cells (idx.zip vs) = some (fillL cells.toList pls vs).toArray
  | [], [], [], cells, _, _ => by simp [Instr.fill, fillL]
  | [], [], _ :: _, _, _, h => by simp [fillOk] at h
  | [], _ :: _, _, _, h, _ => by simp at h
  | _ :: _, [], _, _, h, _ => by simp at h
  | i :: idx, p :: pls, [], cells, _, h => by simp [fillOk] at h
  | i :: idx, p :: pls, v :: vs, cells, he, h => by
    simp only [List.map_cons, List.cons.injEq] at he
    simp only [fillOk, Bool.and_eq_true] at h
    obtain ⟨⟨h1, h2⟩, h3⟩ := h
    have h1 := Nat.eq_of_beq_eq_true h1
    have h2 := Nat.le_of_ble_eq_true h2
    have hf := fold_splice v.cells.toList 0 p.1 cells (by simp [h1]; omega)
    have hf2 : (v.cells.zipIdx.foldl (fun cs (c, j) => cs.setIfInBounds (p.1 + j) c) cells).toList = splice cells.toList p.1 v.cells.toList := by
      rw [← Array.foldl_toList, Array.toList_zipIdx]
      simpa using hf
    have hs : (v.cells.zipIdx.foldl (fun cs (c, j) => cs.setIfInBounds (p.1 + j) c) cells).size = cells.size := by
      have := congrArg List.length hf2
      rw [splice_length (by simp [h1]; omega)] at this
      simpa using this
    simp only [List.zip_cons_cons, Instr.fill, he.1]
    rw [if_neg (by simp [h1]; omega), fill_fillL place idx pls vs _ he.2 (by rw [hs]; exact h3), hf2]
    rfl
/-- []T{..} -/
theorem wl_buildSlice {As : List Th} (hS : Sat w As) {t e size len : Nat} {z : Value} {parts : List (Nat × Operand)} {vs : List Value} (hx : looks L (parts.map (·.2)) = some vs) (hu : P.underlying t = some (.slice e)) (hi : (P.info? e).map (fun i => (i.zero, i.size)) = some (some z, size)) (hlen : Nat.ble (len * size) 1000 = true) (hzs : z.cells.size = size)
    (hok : fillOk (len * size) ((parts.map (·.1)).map fun i => (i * size, size)) vs = true) (hd : Nat.blt d n = true)
    (hk : ∀ b w', Sat w' (ownT (.slice (some ⟨b, 0, none⟩) len len) len size (fillL (List.replicate len z.cells.toList).flatten ((parts.map (·.1)).map fun i => (i * size, size)) vs) :: As) → wl P n ops Q rest ((d, .slice (some ⟨b, 0, none⟩) len len) :: L) w') : wl P n ops Q (⟨some d, .buildSlice t len parts.toArray, ty, pos, aft, none⟩ :: rest) L w := by
  obtain ⟨ii, hi1, hi2⟩ := Option.map_eq_some_iff.1 hi
  simp only [Prod.mk.injEq] at hi2
  have hle : len * size ≤ 1000 := Nat.le_of_ble_eq_true hlen
  have hzl : ((Array.range (len * size)).map (z.cells[· % z.cells.size]!)).toList = (List.replicate len z.cells.toList).flatten := by
    rw [← hzs]; exact madeCells_toList z.cells len
  have hzsz : ((Array.range (len * size)).map (z.cells[· % z.cells.size]!)).size = len * size := by simp
  have hf := fill_fillL (fun i => some (i * size, size)) (parts.map (·.1)) ((parts.map (·.1)).map fun i => (i * size, size)) vs ((Array.range (len * size)).map (z.cells[· % z.cells.size]!)) (by simp [Function.comp_def]) (by rw [hzsz]; exact hok)
  rw [hzl] at hf
  generalize hcs : fillL (List.replicate len z.cells.toList).flatten ((parts.map (·.1)).map fun i => (i * size, size)) vs = cells at hf hk
  have hcl : cells.length = len * size := by
    have hgen : ∀ (pls : List (Nat × Nat)) (vs : List Value) (zz : List Value), fillOk zz.length pls vs = true → (fillL zz pls vs).length = zz.length := by
      intro pls
      induction pls with
      | nil => intro vs zz _; cases vs <;> rfl
      | cons p pls ih =>
        intro vs zz h
        cases vs with
        | nil => rfl
        | cons v vs =>
          simp only [fillOk, Bool.and_eq_true] at h
          have h1 := Nat.eq_of_beq_eq_true h.1.1
          have h2 := Nat.le_of_ble_eq_true h.1.2
          have hl : (splice zz p.1 v.cells.toList).length = zz.length := splice_length (by simp [h1]; omega)
          simp only [fillL]
          rw [ih vs _ (by rw [hl]; exact h.2), hl]
    have hzl2 : (List.replicate len z.cells.toList).flatten.length = len * size := by simp [hzs]
    rw [← hcs, hgen _ _ _ (by rw [hzl2]; exact hok), hzl2]
  refine wl_does rfl hd (R := fun v w' => v = .slice (some ⟨w.heap.size, 0, none⟩) len len ∧ w' = w.alloc (.cells cells.toArray e)) (fun a ha => ⟨_, _, .inl ?_, rfl, rfl⟩) ?_
  · have hzv : (zeroValue e).run P w = .ok z w := by simp [zeroValue, typeInfo, hi1, hi2.1]
    have hso : (sizeOf e).run P w = .ok size w := by simp [sizeOf, typeInfo, hi1, hi2.2]
    have hev := ha.evals hx
    have hp : (parts.toArray.map fun (i, x) => (i, a.eval x)).toList = (parts.map (·.1)).zip vs := by
      rw [← hev]
      simp
      clear hev hx hf hcs hok
      induction parts with
      | nil => rfl
      | cons p ps ih => simp [ih]
    have hno : ¬ (2 ^ 24 < len * size) := by omega
    by_cases hz0 : len * size = 0
    · have hf' : Instr.fill (fun i => some (i * size, size)) #[] ((parts.map (·.1)).zip vs) = some cells.toArray := by
        rw [hz0, show Array.range 0 = #[] from rfl] at hf; simpa using hf
      simp only [execOp, Instr.buildSlice]
      have hr0 : Array.range 0 = #[] := rfl
      simp [run_underlying hu, hso, hz0, newRow, hr0]
      simp at hp
      rw [hp, hf']
      simp
    · simp only [execOp, Instr.buildSlice]
      simp [run_underlying hu, hso, hz0, hno, hzv, newRow]
      simp at hp
      rw [hp, hf]
      simp
  · rintro v w' ⟨rfl, rfl⟩
    exact hk _ _ (hS.new ((Only.refl _ _).alloc _) (F' := fun k => k ∈ [w.heap.size]) (A := ownT _ _ _ _) ⟨[w.heap.size], rfl, own_of_blk (sp := []) (by simpa using Blk.new w cells e) (by simpa using hcl) (Nat.le_refl _) (by simpa using hcl)⟩ (fun k hk => by simp at hk; omega))
theorem ev_buildS {t : Nat} {parts : List (Nat × Operand)} {vs : List Value} {pls : List (Nat × Nat)} {z : List Value} (hx : looks L (parts.map (·.2)) = some vs) (hp : structPl P t (parts.map (·.1)) = some pls) (ha : allSz P t = true) (hz : zeroOf P t = some (some (.agg z.toArray))) (hok : fillOk z.length pls vs = true) : Ev P L w ⟨some d, .build t parts.toArray, ty, pos, aft, none⟩ (.agg (fillL z pls vs).toArray) := by
  refine ev_build hx fun w => ?_
  unfold structPl at hp
  unfold allSz at ha
  split at hp
  · rename_i fs hu
    rw [hu] at ha
    simp only at ha
    have hm : ∀ (l : List Field), (∀ f ∈ l, (szOf P f.type).isSome = true) → ∃ ps : List (Nat × Nat), ps = l.map (fun f => (f.offset, (szOf P f.type).getD 0)) ∧ (l.mapM (m := Sem) fun f => Prod.mk f.offset <$> sizeOf f.type).run P w = .ok ps w := by
      intro l
      induction l with
      | nil => intro _; exact ⟨[], rfl, by simp⟩
      | cons f l ih =>
        intro h
        obtain ⟨ps, h1, h2⟩ := ih (fun g hg => h g (by simp [hg]))
        obtain ⟨q, hq⟩ := Option.isSome_iff_exists.1 (h f (by simp))
        refine ⟨(f.offset, q) :: ps, by simp [h1, hq], ?_⟩
        simp [List.mapM_cons, run_sizeOf hq, h2]
    obtain ⟨ps, hps, hrun⟩ := hm fs.toList (fun f hf => List.all_eq_true.1 ha f hf)
    have hrun' : (fs.mapM (m := Sem) fun f => Prod.mk f.offset <$> sizeOf f.type).run P w = .ok ps.toArray w := by
      rw [Array.mapM_eq_mapM_toList]
      simp [hrun]
    have hpl : (parts.map (·.1)).map (fun i => ps.toArray[i]?) = pls.map some := by
      clear hok hx hz hrun hrun'
      generalize parts.map (·.1) = idx at hp
      induction idx generalizing pls with
      | nil => simp at hp; subst hp; rfl
      | cons i idx ih =>
        rw [List.mapM_cons] at hp
        simp only [Option.bind_eq_bind, Option.bind_eq_some_iff, Option.pure_def, Option.some.injEq] at hp
        obtain ⟨p, hp1, qs, hp2, rfl⟩ := hp
        simp only [List.map_cons, ih hp2, List.cons.injEq, and_true]
        cases hfi : fs[i]? with
        | none => simp [hfi] at hp1
        | some f =>
          simp only [hfi, Option.map_eq_some_iff] at hp1
          obtain ⟨q, hq, rfl⟩ := hp1
          rw [hps]
          have : fs.toList[i]? = some f := by simpa using hfi
          simp [hfi, hq]
    have hfill := fill_fillL (fun i => ps.toArray[i]?) (parts.map (·.1)) pls vs z.toArray hpl (by simpa using hok)
    simp only [List.getElem?_toArray] at hfill
    simp [Instr.build, run_zeroOf hz, Value.cells, run_underlying hu, hrun']
    rw [hfill]; rfl
  · cases hp
theorem wl_buildS {t : Nat} {parts : List (Nat × Operand)} {vs : List Value} {pls : List (Nat × Nat)} {z : List Value} (hx : looks L (parts.map (·.2)) = some vs) (hp : structPl P t (parts.map (·.1)) = some pls) (ha : allSz P t = true) (hz : zeroOf P t = some (some (.agg z.toArray))) (hok : fillOk z.length pls vs = true) (hd : Nat.blt d n = true) (hk : wl P n ops Q rest ((d, .agg (fillL z pls vs).toArray) :: L) w) : wl P n ops Q (⟨some d, .build t parts.toArray, ty, pos, aft, none⟩ :: rest) L w :=
  wl_val hd (ev_buildS hx hp ha hz hok) hk
end
end Go.Proofs.YtkaikhcpcbjkcaaGreatDoor.M
/- Rules for ranging over maps, for values in interfaces, and for calls into the model's own entries. Conditions: each rule's own hypotheses. -/
namespace Go.Proofs.YtkaikhcpcbjkcaaGreatDoor.M
open Go.RowKit
section
variable {κ : Type} {kv : κ → Value}
def notSeen (es : Array MapEntry) (seen : Array Nat) : List MapEntry := es.toList.filter fun e => !seen.toList.contains e.born
/-- a map that is being ranged over: what it says, which keys have been met, the last one met, and how many are still to come -/
def rangeT (kv : κ → Value) (b r : Nat) (g : κ → Option Value) (dn : κ → Prop) (cur : Option κ) (left : Nat) : Th where
  at_ := fun w F => (F = fun k => k = b ∨ k = r) ∧ b ≠ r ∧ ∃ es clock seen, MapAt kv w b es clock ∧ Reads kv es g ∧ IterAt w r b clock seen clock ∧ (∀ e ∈ es.toList, ∀ k, e.key = kv k → (e.born ∈ seen.toList ↔ dn k)) ∧ (notSeen es seen).length = left ∧
    (∀ k, cur = some k → ∃ (s0 : Array Nat) (e : MapEntry), seen = s0.push e.born ∧ e ∈ es.toList ∧ e.key = kv k)
  fr := fun {w w2 F} a h => by
    obtain ⟨e, hne, es, c, sn, h1, h2, h3, h4⟩ := h
    have hb := a.blk b (by rw [e]; exact .inl rfl)
    have hr := a.blk r (by rw [e]; exact .inr rfl)
    exact ⟨e, hne, es, c, sn, h1.congr hb, h2, by unfold IterAt at h3 ⊢; rw [hr]; exact h3, h4⟩
  lt := fun h k hk => by
    obtain ⟨e, _, es, c, sn, h1, _, h3, _⟩ := h
    rw [e] at hk
    rcases hk with rfl | rfl
    · exact h1.lt
    · exact h3.lt
theorem range_map {w : World} {As : List Th} {b r : Nat} {g : κ → Option Value} {dn : κ → Prop} {cur : Option κ} {left : Nat} (h : Sat w (rangeT kv b r g dn cur left :: As)) : Sat w (mapT kv b g :: As) := by
  obtain ⟨F, F1, F2, rfl, d, ⟨e, _, es, c, sn, h1, h2, _⟩, g2⟩ := h
  exact ⟨_, fun k => k = b, F2, rfl, fun k hk hf => d k (by rw [e]; exact .inl hk) hf, ⟨rfl, es, c, h1, h2⟩, g2⟩
section
variable {P : Program} {n : Nat} {ops : Array Oper} {Q : Exit → Act → World → Prop} {rest : List Oper} {L : Env} {w : World} {d : Nat} {ty : TypeId} {pos : String} {aft : Array Edge}
theorem wl_range {mt kt et : TypeId} {x : Operand} {b : Nat} {f : κ → Option Value} {As : List Th} (i : Nat) (hS : Sat w As) (hm : P.underlying mt = some (.map kt et)) (hi : As[i]? = some (mapT kv b f)) (hx : look L x = some (.map (some b))) (hd : Nat.blt d n = true)
    (hk : ∀ r left w', Sat w' (As.set i (rangeT kv b r f (fun _ => False) none left)) → wl P n ops Q rest ((d, ptrV r 0) :: L) w') : wl P n ops Q (⟨some d, .range mt x, ty, pos, aft, none⟩ :: rest) L w := by
  obtain ⟨es, c, h1, h2⟩ := hS.map i hi
  refine wl_does rfl hd (fun a ha => does_range mt x rfl hm h1 (ha.eval hx)) ?_
  rintro v w' ⟨rfl, h3, h4⟩
  have ho : Only [] w w' := by rw [h4]; exact (Only.refl _ _).alloc _
  refine hk w.heap.size _ w' (hS.step i hi fun F ⟨e, _⟩ => ⟨fun k => k = b ∨ k = w.heap.size, ⟨rfl, ?_, es, c, #[], ?_, h2, h3, by simp, rfl, by simp⟩, ?_, ?_⟩)
  · have := h1.lt; omega
  · exact h1.congr (ho.block b h1.lt (by simp))
  · rintro k (rfl | rfl)
    · exact .inl (by rw [e])
    · exact .inr (Nat.le_refl _)
  · exact ⟨ho.os, ho.tape, ho.output, fun k hk => ho.block k hk.1 (by simp)⟩
theorem wl_next {x : Operand} {b r left : Nat} {g : κ → Option Value} {dn : κ → Prop} {cur : Option κ} {As : List Th} (i : Nat) (hS : Sat w As) (hinj : ∀ a b, kv a = kv b → a = b) (hi : As[i]? = some (rangeT kv b r g dn cur left)) (hx : look L x = some (ptrV r 0)) (hd : Nat.blt d n = true)
    (h0 : (∀ k v, g k = some v → dn k) → wl P n ops Q rest ((d, .tuple #[.bool false]) :: L) w)
    (h1 : ∀ k v left' w', left = left' + 1 → g k = some v → ¬ dn k → Sat w' (As.set i (rangeT kv b r g (fun j => dn j ∨ j = k) (some k) left')) → wl P n ops Q rest ((d, .tuple #[.bool true, kv k, v]) :: L) w') : wl P n ops Q (⟨some d, .next x false, ty, pos, aft, none⟩ :: rest) L w := by
  obtain ⟨F, hF, hne, es, c, sn, m1, m2, m3, m4, m5, m6⟩ := hS.get i hi
  refine wl_does rfl hd (fun a ha => does_next x rfl m1 m3 (ha.eval hx)) ?_
  rintro v w' (⟨rfl, rfl, hall⟩ | ⟨e, he, hns, rfl, ho, hit, hsz⟩)
  · refine h0 fun k v hk => ?_
    obtain ⟨e, he, hkk, _⟩ := (m2 k v).1 hk
    exact (m4 e he k hkk).1 (hall e he)
  · obtain ⟨k, hk⟩ := m1.keys e he
    have hgk : g k = some e.val := (m2 k e.val).2 ⟨e, he, hk, rfl⟩
    have hcnt : (notSeen es (sn.push e.born)).length + 1 = (notSeen es sn).length := by
      unfold notSeen
      have hnd := m1.stamped.2.1
      have hmem : ∀ l : List MapEntry, (l.map (·.born)).Nodup → e ∈ l → (l.filter fun x => !(sn.push e.born).toList.contains x.born).length + 1 = (l.filter fun x => !sn.toList.contains x.born).length := by
        intro l
        induction l with
        | nil => intro _ h; cases h
        | cons y l ih =>
          intro hn hy
          simp only [List.map_cons, List.nodup_cons] at hn
          rcases List.mem_cons.1 hy with rfl | hy
          · have h1 : (!(sn.push e.born).toList.contains e.born) = false := by simp
            have h2 : (!sn.toList.contains e.born) = true := by simpa using hns
            have h3 : l.filter (fun x => !(sn.push e.born).toList.contains x.born) = l.filter fun x => !sn.toList.contains x.born := by
              apply List.filter_congr
              intro x hx
              have : x.born ≠ e.born := fun q => hn.1 (List.mem_map.2 ⟨x, hx, q⟩)
              simp [this]
            rw [List.filter_cons, List.filter_cons, h1, h2, h3]; simp
          · have hne2 : y.born ≠ e.born := fun q => hn.1 (List.mem_map.2 ⟨e, hy, q.symm⟩)
            have h1 : (!(sn.push e.born).toList.contains y.born) = (!sn.toList.contains y.born) := by simp [hne2]
            have := ih hn.2 hy
            rw [List.filter_cons, List.filter_cons, h1]
            split
            · simp only [List.length_cons]; omega
            · exact this
      exact hmem es.toList hnd he
    rw [hk]
    refine h1 k e.val (notSeen es (sn.push e.born)).length w' (by omega) hgk (fun q => hns ((m4 e he k hk).2 q)) (hS.step i hi fun F2 h2 => ?_)
    have hF2 := h2.1
    refine ⟨fun k => k = b ∨ k = r, ⟨rfl, hne, es, c, sn.push e.born, m1.congr (ho.block b m1.lt (by simpa using hne)), m2, hit, ?_, rfl, ?_⟩, fun q hq => .inl (by rw [hF2]; exact hq), ho.agree (fun x hx => .inl (by simp only [List.mem_singleton] at hx; subst hx; rw [hF2]; exact .inr rfl))⟩
    · intro e2 he2 j hj
      simp only [Array.toList_push, List.mem_append, List.mem_singleton]
      rw [m4 e2 he2 j hj]
      constructor
      · rintro (h | h)
        · exact .inl h
        · have : e2 = e := by
            obtain ⟨p, hp⟩ := List.mem_iff_getElem?.1 he2
            obtain ⟨q, hq⟩ := List.mem_iff_getElem?.1 he
            have := born_idx m1.stamped.2.1 hp hq h
            subst this; rw [hp] at hq; exact Option.some.inj hq
          subst this
          exact .inr (hinj _ _ (hj.symm.trans hk))
      · rintro (h | h)
        · exact .inl h
        · subst h
          exact .inr (by rw [key_one m1.stamped.2.2 he2 he (hj.trans hk.symm)])
    · intro j hj
      cases hj
      exact ⟨sn, e, rfl, he, hk⟩
theorem wl_entry {x : Operand} {b r left : Nat} {g : κ → Option Value} {dn : κ → Prop} {k : κ} {v : Value} {As : List Th} (i : Nat) (hS : Sat w As) (hi : As[i]? = some (rangeT kv b r g dn (some k) left)) (hg : g k = some v) (hx : look L x = some (ptrV r 0)) (hd : Nat.blt d n = true)
    (hk : wl P n ops Q rest ((d, .tuple #[kv k, v]) :: L) w) : wl P n ops Q (⟨some d, .entry x, ty, pos, aft, none⟩ :: rest) L w := by
  obtain ⟨F, hF, hne, es, c, sn, m1, m2, m3, m4, m5, m6⟩ := hS.get i hi
  obtain ⟨s0, e, rfl, he, hke⟩ := m6 k rfl
  have hv : v = e.val := by have := (m2 k e.val).2 ⟨e, he, hke, rfl⟩; rw [hg] at this; exact Option.some.inj this
  subst hv
  refine wl_does rfl hd (fun a ha => does_entry x rfl m1 m3 he (ha.eval hx)) ?_
  rintro u w' ⟨rfl, rfl⟩
  rw [hke]; exact hk
def notIface (P : Program) (t : Nat) : Bool := match P.underlying t with | some (.interface _) => false | some _ => true | none => false
theorem wl_makeIface {x : Operand} {t : TypeId} {v : Value} (ht : notIface P t = true) (hx : look L x = some v) (hd : Nat.blt d n = true) (hk : wl P n ops Q rest ((d, .iface t v) :: L) w) : wl P n ops Q (⟨some d, .makeInterface t x, ty, pos, aft, none⟩ :: rest) L w :=
  wl_val hd (fun ρ hρ => by
    unfold notIface at ht
    cases hu : P.underlying t with
    | none => rw [hu] at ht; cases ht
    | some dd =>
      rw [hu] at ht
      simp only [execOp, hρ _ _ hx, Instr.makeInterface]
      cases dd <;> simp [run_underlying hu] <;> simp at ht) hk
end
section
variable {P : Program} {n : Nat} {ops : Array Oper} {Q : Exit → Act → World → Prop} {rest : List Oper} {L : Env} {w : World} {d : Nat} {ty : TypeId} {pos : String} {aft : Array Edge}
end
end
end Go.Proofs.YtkaikhcpcbjkcaaGreatDoor.M
/- Rows of elements: owned slices and slices that are read, by a codec of the element. Conditions: each rule's own hypotheses. -/
namespace Go.Proofs.YtkaikhcpcbjkcaaGreatDoor.M
open Go.RowKit
/-- how an element lies in cells -/
structure RowC (α : Type) where
  enc : α → List Value
  size : Nat
  pos : 0 < size
  len : ∀ a, (enc a).length = size
  one : ∀ a, allOne (enc a) = true
def RowC.cells {α : Type} (C : RowC α) (l : List α) : List Value := l.flatMap C.enc
section
variable {α : Type} {C : RowC α} {l l2 : List α} {a : α} {j : Nat}
theorem RowC.cells_len (C : RowC α) (l : List α) : (C.cells l).length = l.length * C.size := by
  induction l with
  | nil => simp [RowC.cells]
  | cons a l ih => simp only [RowC.cells, List.flatMap_cons, List.length_append, C.len, List.length_cons] at ih ⊢; rw [ih, Nat.add_mul]; omega
theorem RowC.cells_one (C : RowC α) (l : List α) : allOne (C.cells l) = true := allOne_mk (by
  intro v hv
  obtain ⟨a, _, h⟩ := List.mem_flatMap.1 hv
  exact allOne_spec (C.one a) v h)
theorem RowC.cells_app (C : RowC α) (l l2 : List α) : C.cells l ++ C.cells l2 = C.cells (l ++ l2) := by simp [RowC.cells]
theorem RowC.cells_at : ∀ {l : List α} {j : Nat}, l[j]? = some a → ((C.cells l).drop (j * C.size)).take C.size = C.enc a
  | [], j, h => by simp at h
  | b :: l, 0, h => by
    simp at h; subst h
    rw [Nat.zero_mul, List.drop_zero]
    show (C.enc b ++ C.cells l).take C.size = _
    rw [← C.len b, List.take_left]
  | b :: l, j + 1, h => by
    have e : (j + 1) * C.size = (C.enc b).length + j * C.size := by rw [C.len, Nat.add_mul]; omega
    show ((C.enc b ++ C.cells l).drop _).take _ = _
    rw [e, ← List.drop_drop, List.drop_left]
    exact RowC.cells_at (by simpa using h)
theorem RowC.cells_get {o : Nat} {u : Value} (h : l[j]? = some a) (ho : (C.enc a)[o]? = some u) : (C.cells l)[j * C.size + o]? = some u := by
  have h1 := RowC.cells_at (C := C) h
  rw [← h1, List.getElem?_take] at ho
  split at ho
  · rw [List.getElem?_drop] at ho; exact ho
  · cases ho
end
abbrev rowT {α : Type} (C : RowC α) (v : Value) (l : List α) : Th := ownT v l.length C.size (C.cells l)
theorem Sat.row_cast {α : Type} {C : RowC α} {w : World} {As : List Th} {v : Value} {m size : Nat} {xs : List Value} {l : List α} (h : Sat w (ownT v m size xs :: As)) (hm : m = l.length) (hs : size = C.size) (hx : xs = C.cells l) : Sat w (rowT C v l :: As) := by subst hm hs hx; exact h
def maskOf (n : Nat) (is : List Nat) : List Bool := (List.range n).map (is.contains ·)
/-- some of the things, in this order; the others are dropped -/
theorem Sat.pick {w : World} {As : List Th} (h : Sat w As) (is : List Nat) (hm : maskOk As.length is (maskOf As.length is) = true) : Sat w (pickA As is) := by
  have h1 := h.split is _ hm
  have h2 := h1.drop (pickA As is).length (A := starL (selF (maskOf As.length is) As)) (by simp)
  rw [List.eraseIdx_append_of_length_le (Nat.le_refl _), Nat.sub_self] at h2
  simpa using h2
/-- an empty row -/
theorem Sat.row_nil {α : Type} (C : RowC α) {w : World} {As : List Th} (h : Sat w As) : Sat w (rowT C (.slice none 0 0) [] :: As) :=
  h.new (Only.refl [] w) (A := ownT (.slice none 0 0) 0 C.size []) (F' := fun k => k ∈ ([] : List Nat)) ⟨[], rfl, Own.nil w C.size⟩ (by simp)
/-- a slice that is read -/
def RdL {α : Type} (C : RowC α) (v : Value) (l : List α) (w : World) : Prop := ∃ ao cap, v = .slice ao l.length cap ∧ l.length ≤ 9223372036854775807 ∧ ∀ (i : Nat) (a : α), l[i]? = some a → ∃ b off, ao = some ⟨b, off, none⟩ ∧ ∀ (j : Nat) (u : Value), (C.enc a)[j]? = some u → w.cell? ⟨b, off + i * C.size + j, none⟩ = some u
section
variable {α : Type} {C : RowC α} {l : List α} {w : World} {v : Value}
theorem RdL.shape (h : RdL C v l w) : ∃ ao cap, v = .slice ao l.length cap ∧ l.length ≤ 9223372036854775807 := by obtain ⟨ao, cap, h1, h2, _⟩ := h; exact ⟨ao, cap, h1, h2⟩
theorem RdL.get {ao : Option Addr} {n cap i : Nat} {a : α} (h : RdL C (.slice ao n cap) l w) (ha : l[i]? = some a) : ∃ b off, ao = some ⟨b, off, none⟩ ∧ ∀ (j : Nat) (u : Value), (C.enc a)[j]? = some u → w.cell? ⟨b, off + i * C.size + j, none⟩ = some u := by
  obtain ⟨ao', cap', h1, _, h3⟩ := h
  cases h1
  exact h3 i a ha
theorem RdL.nil (C : RowC α) (w : World) : RdL C (.slice none 0 0) [] w := ⟨none, 0, rfl, by simp, by simp⟩
theorem RdL.lenOf {P : Program} (h : RdL C v l w) : ∀ w1, (Builtin.lenOf v).run P w1 = .ok l.length w1 := by
  obtain ⟨ao, cap, rfl, _⟩ := h.shape
  exact lenOf_slice _ _ _
theorem RdL.first {P : Program} (h : RdL C v l w) : ∀ w1 : World, w1.heap = w.heap → (Builtin.firstCells C.size l.length v).run P w1 = .ok (C.cells l).toArray w1 := by
  obtain ⟨ao, cap, rfl, _⟩ := h.shape
  intro w1 hw
  cases hl : l with
  | nil => cases ao <;> simp [Builtin.firstCells, RowC.cells, loadCells, loadCellsFrom]
  | cons x l' =>
    obtain ⟨b, off, rfl, _⟩ := h.get (i := 0) (a := x) (by rw [hl]; rfl)
    rw [← hl]
    simp only [Builtin.firstCells]
    have := run_loadCells_list (P := P) w1 ⟨b, off, none⟩ (C.cells l) (fun j v hv => by
      rw [addr_add]
      have hjl := (List.getElem?_eq_some_iff.1 hv).1
      rw [C.cells_len] at hjl
      have hq : j / C.size < l.length := Nat.div_lt_of_lt_mul (by rw [Nat.mul_comm]; exact hjl)
      have ha : l[j / C.size]? = some l[j / C.size] := List.getElem?_eq_getElem hq
      obtain ⟨b2, o2, e, hc⟩ := h.get ha
      cases e
      have hr := Nat.mod_lt j C.pos
      have hm : j / C.size * C.size + j % C.size = j := by have := Nat.div_add_mod j C.size; rw [Nat.mul_comm]; exact this
      have hu : (C.enc l[j / C.size])[j % C.size]? = some v := by
        have h1 := RowC.cells_at (C := C) ha
        rw [← h1, List.getElem?_take, if_pos hr, List.getElem?_drop, hm]; exact hv
      have := hc _ _ hu
      rw [World.cell?_of_block (w := w) (by rw [hw])]
      rw [← this, Nat.add_assoc, hm])
    rw [C.cells_len] at this
    exact this
theorem Sat.rd {As : List Th} (hS : Sat w As) (i : Nat) (hi : As[i]? = some (rowT C v l)) (hl : l.length ≤ 9223372036854775807) : RdL C v l w := by
  obtain ⟨ao, cap, rfl, _⟩ := hS.own_shape i hi
  refine ⟨ao, cap, rfl, hl, fun k a ha => ?_⟩
  obtain ⟨b, cap', hv, _⟩ := hS.own_at i hi (by have := (List.getElem?_eq_some_iff.1 ha).1; omega)
  cases hv
  exact ⟨b, 0, rfl, fun j u hu => by rw [Nat.zero_add]; exact hS.ocell i hi rfl (RowC.cells_get ha hu)⟩
theorem ent_row {v : Value} {l : List α} (hl : l.length ≤ 9223372036854775807) : Ent (rowT C v l) (RdL C v l) := fun {w G} h =>
  Sat.rd (As := [rowT C v l]) (w := w) ⟨G, G, fun _ => False, by simp, fun _ _ h => h, h, rfl⟩ 0 rfl hl
end
section
variable {P : Program} {n : Nat} {ops : Array Oper} {Q : Exit → Act → World → Prop} {rest : List Oper} {L : Env} {w : World} {d : Nat} {ty : TypeId} {pos : String} {aft : Array Edge}
variable {α : Type} {C : RowC α} {l : List α} {v : Value} {a : α} {As : List Th}
/-- &x[j] -/
theorem wl_rowIdx (C : RowC α) (i j : Nat) (hS : Sat w As) {x y : Operand} {t : Nat} {k : IntKind} {q : Int} (hi : As[i]? = some (rowT C v l)) (hx : look L x = some v) (hy : look L y = some (.int k q)) (hq : q = (j : Int)) (ha : l[j]? = some a) (hs : elemSz P t = some C.size) (hd : Nat.blt d n = true)
    (hk : ∀ b cap, v = .slice (some ⟨b, 0, none⟩) l.length cap → wl P n ops Q rest ((d, ptrV b (j * C.size)) :: L) w) : wl P n ops Q (⟨some d, .indexAddr t x y, ty, pos, aft, none⟩ :: rest) L w :=
  wl_indexO i j hS hi hx hy hq (List.getElem?_eq_some_iff.1 ha).1 hs hd hk
/-- a cell of an element of an owned row -/
theorem wl_rowLoad (i j o : Nat) (hS : Sat w As) {x : Operand} {t b cap m q : Nat} {u : Value} (hi : As[i]? = some (rowT C v l)) (hv : v = .slice (some ⟨b, 0, none⟩) m cap) (hx : look L x = some (ptrV b q)) (hq : q = j * C.size + o) (ha : l[j]? = some a) (hg : aggB P t = some false) (hu : (C.enc a)[o]? = some u) (hd : Nat.blt d n = true)
    (hk : wl P n ops Q rest ((d, u) :: L) w) : wl P n ops Q (⟨some d, .load t x, ty, pos, aft, none⟩ :: rest) L w := by
  subst hq
  exact wl_load hx hg (hS.ocell i hi hv (RowC.cells_get ha hu)) hd hk
/-- the same, the row's value written out -/
theorem ev_rowLoad0 (C : RowC α) (i j o : Nat) (hS : Sat w As) {x : Operand} {t b cap m : Nat} {u : Value} {a : α} {l : List α} (hi : As[i]? = some (rowT C (.slice (some ⟨b, 0, none⟩) m cap) l)) (ha : l[j]? = some a) (hg : aggB P t = some false) (hx : look L x = some (ptrV b (0 + j * C.size + o))) (hu : (C.enc a)[o]? = some u) : Ev P L w ⟨some d, .load t x, ty, pos, aft, none⟩ u := by
  refine ev_load hx hg ?_
  rw [Nat.zero_add]
  exact hS.ocell i hi rfl (RowC.cells_get ha hu)
/-- []T{..} -/
theorem wl_rowBuild (C : RowC α) (l : List α) (hS : Sat w As) {t e len : Nat} {z : Value} {parts : List (Nat × Operand)} {vs : List Value} (hx : looks L (parts.map (·.2)) = some vs) (hu : P.underlying t = some (.slice e)) (hi : (P.info? e).map (fun i => (i.zero, i.size)) = some (some z, C.size)) (hlen : Nat.ble (len * C.size) 1000 = true) (hzs : z.cells.size = C.size)
    (hok : fillOk (len * C.size) ((parts.map (·.1)).map fun i => (i * C.size, C.size)) vs = true) (hl : l.length = len) (he : fillL (List.replicate len z.cells.toList).flatten ((parts.map (·.1)).map fun i => (i * C.size, C.size)) vs = C.cells l) (hd : Nat.blt d n = true)
    (hk : ∀ b w', Sat w' (rowT C (.slice (some ⟨b, 0, none⟩) len len) l :: As) → wl P n ops Q rest ((d, .slice (some ⟨b, 0, none⟩) len len) :: L) w') : wl P n ops Q (⟨some d, .buildSlice t len parts.toArray, ty, pos, aft, none⟩ :: rest) L w := by
  refine wl_buildSlice hS hx hu hi hlen hzs hok hd ?_
  intro b w' h
  exact hk b w' (h.row_cast hl.symm rfl he)
/-- append(x, y...), x an owned row, y read -/
theorem wl_rowApp (C : RowC α) (i : Nat) {l2 : List α} (hS : Sat w As) {t t2 e bytes : Nat} {s x : Operand} {z xv : Value} {d2 : TypeDesc} (hi : As[i]? = some (rowT C v l)) (hs : look L s = some v) (hx : look L x = some xv) (hr : RdL C xv l2 w) (hu : P.underlying t = some (.slice e)) (hu2 : P.underlying t2 = some d2) (hd2 : ∀ k, d2 ≠ .int k)
    (hif : (P.info? e).map (fun i => (i.zero, i.size, i.bytes)) = some (some z, C.size, bytes)) (hz : z.cells.size = C.size) (hb : (l.length + l2.length) * bytes ≤ 140737488355328) (hd : Nat.blt d n = true) (hm : l.length + l2.length ≤ 9223372036854775807)
    (hk : ∀ v' w', Sat w' (As.set i (rowT C v' (l ++ l2))) → wl P n ops Q rest ((d, v') :: L) w') : wl P n ops Q (⟨some d, .call ⟨.builtin .append, #[s, x], #[t, t2]⟩, ty, pos, aft, none⟩ :: rest) L w := by
  refine wl_append i hS hi hs hx hu hu2 hd2 hif hz C.pos hr.lenOf hr.first (C.cells_len l2) (C.cells_one l2) hb hm hd ?_
  intro v' w' h
  refine hk v' w' ?_
  show Sat w' (As.set i (ownT v' (l ++ l2).length C.size (C.cells (l ++ l2))))
  rw [List.length_append, ← C.cells_app]
  exact h
end
/-! ### results that lie in cells -/
def resRun (tmps : Array Value) : ResultVar → Sem Value
  | .tmp t => pure (tmps.getD t undef)
  | .cell a t => do loadVar t (← asAddr (tmps.getD a undef))
def resOk (P : Program) (n : Nat) (L : Env) (w : World) (r : ResultVar) (v : Value) : Prop := ∀ a, Fr n L a → (resRun a.tmps r).run P w = .ok v w
section
variable {P : Program} {n : Nat} {L : Env} {w : World} {Q : Exit → Act → World → Prop}
theorem resT {t : Nat} {v : Value} (h : eget L t = some v) : resOk P n L w (.tmp t) v := fun a ha => by
  have := ha.get t v h; simp [resRun, this]
theorem resC {x t b o : Nat} {v : Value} (h : eget L x = some (ptrV b o)) (ha : aggB P t = some false) (hc : w.cell? ⟨b, o, none⟩ = some v) : resOk P n L w (.cell x t) v := fun a hf => by
  have := hf.get x _ h; simp [resRun, this, asAddr, loadVar, aggB_false ha, load, Sem.run, hc]
theorem resCA {x t b o m : Nat} {cs vs : List Value} (h : eget L x = some (ptrV b o)) (ha : aggB P t = some true) (hs : szOf P t = some m) (hb : Blk w b cs) (hm : o + m ≤ cs.length) (hvs : (cs.drop o).take m = vs) : resOk P n L w (.cell x t) (.agg vs.toArray) := fun a hf => by
  subst hvs
  have := hf.get x _ h; simp [resRun, this, asAddr, loadVar, aggB_true ha, run_sizeOf hs, run_loadCells_blk hb o m hm]
theorem results_eq (fn : Func) (tmps : Array Value) : results fn tmps = (do let vs ← fn.results.mapM (resRun tmps); pure (if h : vs.size = 1 then vs[0] else .tuple vs)) := by
  have e : (resRun tmps) = (fun | .tmp t => pure (tmps.getD t undef) | .cell a t => do loadVar t (← asAddr (tmps.getD a undef)) : ResultVar → Sem Value) := by
    funext r; cases r <;> rfl
  rw [e]; rfl
theorem finR2 {fn : Func} {R : Ending → World → Prop} {r r2 : ResultVar} {v v2 : Value} {e : Exit} (he : e = .normal ∨ e = .ret) (hf : fn.results = #[r, r2]) (hv : resOk P n L w r v) (hv2 : resOk P n L w r2 v2) (h : R (.returned (.tuple #[v, v2])) w) : qs n (bodyPost P fn R) e L w :=
  fin_of he (fun a ha => by rw [results_eq, hf]; simp [hv a ha, hv2 a ha]) h
end
/-! ### rows of bytes -/
section
variable {P : Program} {n : Nat} {ops : Array Oper} {Q : Exit → Act → World → Prop} {rest : List Oper} {L : Env} {w : World} {d : Nat} {ty : TypeId} {pos : String} {aft : Array Edge} {As : List Th}
end
theorem Ev.gd {P : Program} {L : Env} {w : World} {d : Option Nat} {op : Op} {ty : TypeId} {pos : String} {aft : Array Edge} {gd : Option (Nat × Bool)} {v : Value} (h : Ev P L w ⟨d, op, ty, pos, aft, none⟩ v) : Ev P L w ⟨d, op, ty, pos, aft, gd⟩ v := h
/-- a slice that is read, whose elements say more of the memory -/
def RdX {α : Type} (enc : α → List Value) (size : Nat) (φ : α → World → Prop) (v : Value) (l : List α) (w : World) : Prop := ∃ ao cap, v = .slice ao l.length cap ∧ l.length ≤ 9223372036854775807 ∧ ∀ (i : Nat) (a : α), l[i]? = some a →
  (∃ b off, ao = some ⟨b, off, none⟩ ∧ ∀ (j : Nat) (u : Value), (enc a)[j]? = some u → w.cell? ⟨b, off + i * size + j, none⟩ = some u) ∧ φ a w
section
variable {α : Type} {enc : α → List Value} {size : Nat} {φ : α → World → Prop} {l : List α} {w : World} {v : Value}
theorem RdX.shape (h : RdX enc size φ v l w) : ∃ ao cap, v = .slice ao l.length cap ∧ l.length ≤ 9223372036854775807 := by obtain ⟨ao, cap, h1, h2, _⟩ := h; exact ⟨ao, cap, h1, h2⟩
theorem RdX.get {ao : Option Addr} {n cap i : Nat} {a : α} (h : RdX enc size φ (.slice ao n cap) l w) (ha : l[i]? = some a) :
    (∃ b off, ao = some ⟨b, off, none⟩ ∧ ∀ (j : Nat) (u : Value), (enc a)[j]? = some u → w.cell? ⟨b, off + i * size + j, none⟩ = some u) ∧ φ a w := by
  obtain ⟨ao', cap', h1, _, h3⟩ := h
  cases h1
  exact h3 i a ha
theorem RdX.cells {b off n cap i : Nat} {a : α} (h : RdX enc size φ (.slice (some ⟨b, off, none⟩) n cap) l w) (ha : l[i]? = some a) : ∀ (j : Nat) (u : Value), (enc a)[j]? = some u → w.cell? ⟨b, off + i * size + j, none⟩ = some u := by
  obtain ⟨⟨b2, o2, e, hc⟩, _⟩ := h.get ha
  cases e; exact hc
end
end Go.Proofs.YtkaikhcpcbjkcaaGreatDoor.M
