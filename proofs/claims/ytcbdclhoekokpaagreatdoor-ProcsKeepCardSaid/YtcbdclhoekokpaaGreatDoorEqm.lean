/- Look-ups with two results, and maps with as many keys as another. Conditions: each rule's own hypotheses. -/
import Derived.Test.YtcbdclhoekokpaaGreatDoorWm
namespace Go.Proofs.YtcbdclhoekokpaaGreatDoor.M
open Go.RowKit

section
variable {P : Program} {n : Nat} {ops : Array Oper} {Q : Exit → Act → World → Prop} {rest : List Oper} {L : Env} {w : World} {d : Nat} {ty : TypeId} {pos : String} {aft : Array Edge} {κ : Type} {kv : κ → Value} {As : List Th}

theorem ev_lookupOk {mt kt et : TypeId} {x y : Operand} {b : Nat} {f : κ → Option Value} {k : κ} {z : Value} (i : Nat) (hS : Sat w As) (K : KeyOk P kt kv) (hm : P.underlying mt = some (.map kt et)) (hi : As[i]? = some (mapT kv b f)) (hx : look L x = some (.map (some b))) (hy : look L y = some (kv k)) (hz : zeroOf P et = some (some z)) {u : Value} {g : Bool} (hv : (f k).getD z = u) (hg : (f k).isSome = g) : Ev P L w ⟨some d, .lookup mt x y true, ty, pos, aft, none⟩ (.tuple #[u, .bool g]) := fun ρ hρ => by
  subst hv; subst hg
  obtain ⟨es, c, h, h2⟩ := hS.map i hi
  have hx' := hρ _ _ hx
  have hy' := hρ _ _ hy
  rcases K.find k es.toList w h.keys with ⟨j, e, h1, h3, h4⟩ | ⟨h1, h4⟩
  · have : (f k) = some e.val := (h2 k e.val).2 ⟨e, List.mem_of_getElem? h1, h3, rfl⟩
    simp [execOp, hx', hy', Instr.lookup, run_underlying hm, MapKept.run_getObj_map h.blk, K.check, h4, this]
  · have : f k = none := by
      cases hf : f k with
      | none => rfl
      | some u => obtain ⟨e, he, hkk, _⟩ := (h2 k u).1 hf; exact absurd hkk (h1 e he)
    simp [execOp, hx', hy', Instr.lookup, run_underlying hm, MapKept.run_getObj_map h.blk, K.check, h4, this, run_zeroOf hz]
theorem wl_lookupOk {mt kt et : TypeId} {x y : Operand} {b : Nat} {f : κ → Option Value} {k : κ} {z : Value} (i : Nat) (hS : Sat w As) (K : KeyOk P kt kv) (hm : P.underlying mt = some (.map kt et)) (hi : As[i]? = some (mapT kv b f)) (hx : look L x = some (.map (some b))) (hy : look L y = some (kv k)) (hz : zeroOf P et = some (some z)) {u : Value} {g : Bool} (hv : (f k).getD z = u) (hg : (f k).isSome = g) (hd : Nat.blt d n = true)
    (hk : wl P n ops Q rest ((d, .tuple #[u, .bool g]) :: L) w) : wl P n ops Q (⟨some d, .lookup mt x y true, ty, pos, aft, none⟩ :: rest) L w := wl_val hd (ev_lookupOk i hS K hm hi hx hy hz hv hg) hk
theorem ev_lookupOkNil {mt kt et : TypeId} {x y : Operand} {k : κ} {z : Value} (K : KeyOk P kt kv) (hm : P.underlying mt = some (.map kt et)) (hz : zeroOf P et = some (some z)) (hx : look L x = some (.map none)) (hy : look L y = some (kv k)) : Ev P L w ⟨some d, .lookup mt x y true, ty, pos, aft, none⟩ (.tuple #[z, .bool false]) := fun ρ hρ => by
  have hf : (Instr.findKey kt (kv k) []).run P w = .ok none w := by
    rcases K.find k [] w (by simp) with ⟨i, x, h, _⟩ | ⟨_, h⟩
    · simp at h
    · exact h
  simp [execOp, hρ _ _ hx, hρ _ _ hy, Instr.lookup, run_underlying hm, K.check, hf, run_zeroOf hz w]
theorem wl_lookupOkNil {mt kt et : TypeId} {x y : Operand} {k : κ} {z : Value} (K : KeyOk P kt kv) (hm : P.underlying mt = some (.map kt et)) (hz : zeroOf P et = some (some z)) (hx : look L x = some (.map none)) (hy : look L y = some (kv k)) (hd : Nat.blt d n = true) (hk : wl P n ops Q rest ((d, .tuple #[z, .bool false]) :: L) w) : wl P n ops Q (⟨some d, .lookup mt x y true, ty, pos, aft, none⟩ :: rest) L w := wl_val hd (ev_lookupOkNil K hm hz hx hy) hk

theorem Card.sub {f g : κ → Option Value} {m : Nat} (h : Card f m) (h' : Card g m) (e : ∀ k v, f k = some v → g k = some v) : f = g := by
  obtain ⟨ks, h1, h2, h3⟩ := h
  obtain ⟨js, g1, g2, g3⟩ := h'
  have s1 : ∀ x ∈ ks, x ∈ js := fun x hx => (g3 x).1 fun q => by
    cases hf : f x with
    | none => exact ((h3 x).2 hx) hf
    | some v => rw [e x v hf] at q; cases q
  have s2 : ∀ x ∈ js, x ∈ ks := fun x hx => Classical.byContradiction fun hn => by
    have := List.Nodup.length_le_of_subset (l₂ := js) (List.nodup_cons.2 ⟨hn, h1⟩) (by
      intro y hy
      rcases List.mem_cons.1 hy with rfl | hy
      · exact hx
      · exact s1 y hy)
    simp at this; omega
  funext k
  cases hf : f k with
  | some v => exact (e k v hf).symm
  | none =>
    cases hg : g k with
    | none => rfl
    | some v => exact absurd hf ((h3 k).2 (s2 k ((g3 k).1 (by rw [hg]; simp))))
theorem Card.uniq {f : κ → Option Value} {m q : Nat} (h : Card f m) (h' : Card f q) : m = q := h.same h' fun _ => Iff.rfl
end
end Go.Proofs.YtcbdclhoekokpaaGreatDoor.M
