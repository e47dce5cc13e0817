/- Maps as things: a map is a function from keys to values. Rules for the operations on maps. Conditions: each rule's own hypotheses. -/
import Derived.Test.YtcbdclhoekokpaaGreatDoorOp2
import Derived.Test.YtcbdclhoekokpaaGreatDoorMap
namespace Go.Proofs.YtcbdclhoekokpaaGreatDoor.M
open Go.RowKit

section
variable {κ : Type} {kv : κ → Value}

/-- the entries es say f -/
def Reads (kv : κ → Value) (es : Array MapEntry) (f : κ → Option Value) : Prop := ∀ k v, f k = some v ↔ ∃ e ∈ es.toList, e.key = kv k ∧ e.val = v

def mapT (kv : κ → Value) (b : Nat) (f : κ → Option Value) : Th where
  at_ := fun w F => (F = fun k => k = b) ∧ ∃ es clock, MapAt kv w b es clock ∧ Reads kv es f
  fr := fun a ⟨e, es, c, h, r⟩ => ⟨e, es, c, h.congr (a.blk _ (by rw [e])), r⟩
  lt := fun ⟨e, es, c, h, _⟩ k hk => by rw [e] at hk; subst hk; exact h.lt

open Classical in
noncomputable def upd (f : κ → Option Value) (k : κ) (v : Option Value) : κ → Option Value := fun j => if j = k then v else f j

theorem upd_self {f : κ → Option Value} {k : κ} {v : Option Value} : upd f k v k = v := by simp [upd]
theorem upd_ne {f : κ → Option Value} {k j : κ} {v : Option Value} (h : j ≠ k) : upd f k v j = f j := by simp [upd, h]

theorem Sat.map {w : World} {As : List Th} (h : Sat w As) (i : Nat) {b : Nat} {f : κ → Option Value} (hi : As[i]? = some (mapT kv b f)) : ∃ es clock, MapAt kv w b es clock ∧ Reads kv es f := by
  obtain ⟨F, _, h⟩ := h.get i hi; exact h

theorem Sat.map_set {w w' : World} {As : List Th} (h : Sat w As) (i : Nat) {b : Nat} {f f' : κ → Option Value} (hi : As[i]? = some (mapT kv b f)) {es : Array MapEntry} {clock : Nat} (hm : MapAt kv w' b es clock) (hr : Reads kv es f') (ho : Only [b] w w') : Sat w' (As.set i (mapT kv b f')) :=
  h.step i hi fun F ⟨e, _⟩ => ⟨F, ⟨e, es, clock, hm, hr⟩, fun k hk => .inl hk, ho.agree (fun x hx => .inl (by simp only [List.mem_singleton] at hx; subst hx; rw [e]))⟩

theorem Reads.put {P : Program} {kt : TypeId} (K : KeyOk P kt kv) {es es' : Array MapEntry} {clock clock' : Nat} {f : κ → Option Value} (h : Reads kv es f) (hs : MapKept.Stamped es clock) {k : κ} {v : Value} (hp : isPut kv es es' clock clock' k v) : Reads kv es' (upd f k (some v)) := by
  intro j u
  obtain ⟨m1, m2, m3⟩ := hp.mem hs
  by_cases hj : j = k
  · subst hj
    rw [upd_self]
    constructor
    · intro e; cases e; exact m3
    · rintro ⟨e, he, hk, rfl⟩
      rcases m1 e he with ⟨_, h2⟩ | ⟨h2, _⟩
      · rw [h2]
      · exact absurd hk h2
  · rw [upd_ne hj, h j u]
    constructor
    · rintro ⟨e, he, hk, hv⟩
      exact ⟨e, m2 e he (fun q => hj (K.inj _ _ (hk.symm.trans q))), hk, hv⟩
    · rintro ⟨e, he, hk, hv⟩
      rcases m1 e he with ⟨h2, _⟩ | ⟨_, h2⟩
      · exact absurd (K.inj _ _ (hk.symm.trans h2)) hj
      · exact ⟨e, h2, hk, hv⟩

section
variable {P : Program} {n : Nat} {ops : Array Oper} {Q : Exit → Act → World → Prop} {rest : List Oper} {L : Env} {w : World} {d : Nat} {ty : TypeId} {pos : String} {aft : Array Edge}

theorem wl_makeMap (kv : κ → Value) {t : Nat} {As : List Th} (hS : Sat w As) (hd : Nat.blt d n = true) (hk : ∀ b w', Sat w' (mapT kv b (fun _ => none) :: As) → wl P n ops Q rest ((d, .map (some b)) :: L) w') : wl P n ops Q (⟨some d, .makeMap t none, ty, pos, aft, none⟩ :: rest) L w :=
  wl_does rfl hd (fun a _ => does_makeMap kv t rfl) (by
    rintro v w' ⟨rfl, h1, h2⟩
    have ho : Only [] w w' := by rw [h2]; exact (Only.refl _ _).alloc _
    exact hk _ _ (hS.new ho (A := mapT kv w.heap.size (fun _ => none)) ⟨rfl, _, _, h1, fun k v => by simp⟩ (fun k hk => by rw [hk]; exact Nat.le_refl _)))

theorem wl_lookup {mt kt et : TypeId} {x y : Operand} {b : Nat} {f : κ → Option Value} {As : List Th} {k : κ} {z : Value} (i : Nat) (hS : Sat w As) (K : KeyOk P kt kv) (hm : P.underlying mt = some (.map kt et)) (hi : As[i]? = some (mapT kv b f)) (hx : look L x = some (.map (some b))) (hy : look L y = some (kv k)) (hz : zeroOf P et = some (some z)) {u : Value} (hv : (f k).getD z = u) (hd : Nat.blt d n = true)
    (hk : wl P n ops Q rest ((d, u) :: L) w) : wl P n ops Q (⟨some d, .lookup mt x y false, ty, pos, aft, none⟩ :: rest) L w := by
  obtain ⟨es, c, h1, h2⟩ := hS.map i hi
  refine wl_does rfl hd (fun a ha => does_lookup mt x y rfl K hm h1 (ha.eval hx) (ha.eval hy) (run_zeroOf hz w)) ?_
  rintro v w' ⟨h3, rfl⟩
  have e : v = (f k).getD z := by
    rcases h3 with ⟨e, he, hkk, rfl⟩ | ⟨hn, rfl⟩
    · rw [(h2 k e.val).2 ⟨e, he, hkk, rfl⟩]; rfl
    · cases hf : f k with
      | none => rfl
      | some u => obtain ⟨e, he, hkk, _⟩ := (h2 k u).1 hf; exact absurd hkk (hn e he)
  subst e; subst hv
  exact hk

theorem wl_mapUpdate {mt kt et : TypeId} {x y z : Operand} {b : Nat} {f : κ → Option Value} {As : List Th} {k : κ} {v : Value} (i : Nat) (hS : Sat w As) (K : KeyOk P kt kv) (hm : P.underlying mt = some (.map kt et)) (hi : As[i]? = some (mapT kv b f)) (hx : look L x = some (.map (some b))) (hy : look L y = some (kv k)) (hz : look L z = some v)
    (hk : ∀ w', Sat w' (As.set i (mapT kv b (upd f k (some v)))) → wl P n ops Q rest L w') : wl P n ops Q (⟨none, .mapUpdate mt x y z, ty, pos, aft, none⟩ :: rest) L w := by
  obtain ⟨es, c, h1, h2⟩ := hS.map i hi
  refine wl_does rfl rfl (fun a ha => does_mapUpdate mt x y z rfl K hm h1 (ha.eval hx) (ha.eval hy) (ha.eval hz)) ?_
  rintro _ w' ⟨rfl, es', c', hp, h3, h4, _⟩
  exact hk w' (hS.map_set i hi h3 (h2.put K h1.stamped hp) h4)

/-- a map in which the entry of a key that was not there has just been made, with its stamp -/
def mapE (kv : κ → Value) (b : Nat) (f : κ → Option Value) (k : κ) (c : Nat) : Th where
  at_ := fun w F => (F = fun k => k = b) ∧ ∃ es z, MapAt kv w b (es.push { key := kv k, val := z, born := c }) (c + 1) ∧ MapKept.Stamped es c ∧ Reads kv es f ∧ ∀ e ∈ es.toList, e.key ≠ kv k
  fr := fun {w1 w2 F} a h => by
    obtain ⟨e, es, z, h, r⟩ := h
    have h' := h.congr (w' := w2) (a.blk _ (by rw [e]))
    exact ⟨e, es, z, h', r⟩
  lt := fun h k hk => by
    obtain ⟨e, es, z, h, _⟩ := h
    rw [e] at hk; subst hk; exact h.lt

theorem wl_mapEntry {mt kt et : TypeId} {x y : Operand} {b : Nat} {f : κ → Option Value} {As : List Th} {k : κ} {z : Value} (i : Nat) (hS : Sat w As) (K : KeyOk P kt kv) (hm : P.underlying mt = some (.map kt et)) (hi : As[i]? = some (mapT kv b f)) (hx : look L x = some (.map (some b))) (hy : look L y = some (kv k)) (hn : f k = none) (hz : zeroOf P et = some (some z)) (hd : Nat.blt d n = true)
    (hk : ∀ c w', Sat w' (As.set i (mapE kv b f k c)) → wl P n ops Q rest ((d, .tuple #[z, .int .i64 (c : Int)]) :: L) w') : wl P n ops Q (⟨some d, .mapEntry mt x y, ty, pos, aft, none⟩ :: rest) L w := by
  obtain ⟨es, c, h1, h2⟩ := hS.map i hi
  have hno : ∀ e ∈ es.toList, e.key ≠ kv k := fun e he hk => by have := (h2 k e.val).2 ⟨e, he, hk, rfl⟩; rw [hn] at this; cases this
  refine wl_does rfl hd (fun a ha => does_mapEntry_new mt x y rfl K hm h1 (ha.eval hx) (ha.eval hy) hno (run_zeroOf hz w)) ?_
  rintro v w' ⟨rfl, h3, h4, _⟩
  refine hk c w' (hS.step i hi fun F ⟨e, _⟩ => ⟨F, ⟨e, es, z, h3, h1.stamped, h2, hno⟩, fun k hk => .inl hk, h4.agree (fun x hx => .inl (by simp only [List.mem_singleton] at hx; subst hx; rw [e]))⟩)
theorem wl_entryStore {mt : TypeId} {x y z : Operand} {b c : Nat} {f : κ → Option Value} {As : List Th} {k : κ} {v : Value} {kt : TypeId} (i : Nat) (hS : Sat w As) (K : KeyOk P kt kv) (hi : As[i]? = some (mapE kv b f k c)) (hx : look L x = some (.map (some b))) (hy : look L y = some (.int .i64 (c : Int))) (hz : look L z = some v)
    (hk : ∀ w', Sat w' (As.set i (mapT kv b (upd f k (some v)))) → wl P n ops Q rest L w') : wl P n ops Q (⟨none, .entryStore mt x y z, ty, pos, aft, none⟩ :: rest) L w := by
  obtain ⟨F, _, es, u, h1, h2, h3, h4⟩ := hS.get i hi
  refine wl_does rfl rfl (fun a ha => does_entryStore mt x y z rfl h1 (ha.eval hx) (ha.eval hy) (ha.eval hz) h2) ?_
  rintro _ w' ⟨rfl, h5, h6, _⟩
  have hp : isPut kv es (es.push { key := kv k, val := v, born := c }) c (c + 1) k v := .inr ⟨rfl, h4, rfl⟩
  refine hk w' (hS.step i hi fun F ⟨e, _⟩ => ⟨F, ⟨e, _, _, h5, h3.put K h2 hp⟩, fun k hk => .inl hk, h6.agree (fun x hx => .inl (by simp only [List.mem_singleton] at hx; subst hx; rw [e]))⟩)
end
end
end Go.Proofs.YtcbdclhoekokpaaGreatDoor.M
