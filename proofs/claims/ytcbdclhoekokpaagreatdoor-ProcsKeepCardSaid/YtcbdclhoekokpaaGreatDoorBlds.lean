/- Appending a string's bytes to a builder's buffer. Conditions: each lemma's own hypotheses. -/
import Derived.Test.YtcbdclhoekokpaaGreatDoorBld
import Derived.Lib.AppendStr
namespace Go.Proofs.YtcbdclhoekokpaaGreatDoor
open Go.RowKit M
section
variable {P : Program} {n : Nat} {ops : Array Oper} {Q : Exit → Act → World → Prop} {rest : List Oper} {L : Env} {w : World} {d : Nat} {ty : TypeId} {pos : String} {aft : Array Edge} {As : List Th} {T e b : Nat} {cs : List Value}
theorem strCells_eq (l : List UInt8) : Lib.strCells ⟨l.toArray⟩ = byC.cells l := by
  rw [byC_cells]
  simp [Lib.strCells, bytesV]
theorem wl_bufAppS {t t2 : TypeId} {s x : Operand} {v : Value} {bs l2 : List UInt8} (i : Nat) (hS : Sat w As) (hi : As[i]? = some (bufT e v bs)) (hs : M.look L s = some v) (hx : M.look L x = some (strV l2)) (hu : P.underlying t = some (.slice e)) (hu2 : P.underlying t2 = some .string)
    (hif : (P.info? e).map (fun i => (i.zero, i.size, i.bytes)) = some (some (.int .u8 0), 1, 1)) (hm : bs.length + l2.length ≤ 140737488355328) (hd : Nat.blt d n = true)
    (hk : ∀ v' w', Sat w' (As.set i (bufT e v' (bs ++ l2))) → wl P n ops Q rest ((d, v') :: L) w') : wl P n ops Q (⟨some d, .call ⟨.builtin .append, #[s, x], #[t, t2]⟩, ty, pos, aft, none⟩ :: rest) L w := by
  obtain ⟨hown, hnil⟩ := hS.buf i hi
  obtain ⟨foot, hO, hfoot⟩ := own_of_row hown
  obtain ⟨inf, hi1, hi2, hi3, hi4⟩ := info_parts hif
  have hsz : (⟨l2.toArray⟩ : ByteArray).size = l2.length := by simp [ByteArray.size]
  refine wl_does rfl hd (R := fun v w' => Sat w' (As.set i (bufT e v (bs ++ l2)))) (fun a ha => ?_) (fun v w' hR => hk v w' hR)
  obtain ⟨v1, w1, hrun, foot', o1, o2, o3, _⟩ := does_append (P := P) (o := ⟨some d, .call ⟨.builtin .append, #[s, x], #[t, t2]⟩, ty, pos, aft, none⟩) (a := a) t t2 s x rfl (ha.eval hs) (ha.eval hx) hO hu hu2 (by intro k hk; cases hk) hif rfl (by decide) (m := l2.length) (news := byC.cells l2)
    (fun w1 => by simp [strV, Builtin.lenOf, hsz]) (fun w1 _ => by have := Lib.run_firstCells_string (P := P) w1 1 ⟨l2.toArray⟩; rw [hsz, strCells_eq] at this; exact this) (byC.cells_len l2) (allOne_spec (byC.cells_one l2)) (by omega) (by omega)
  obtain ⟨v2, w2, hr2, hown2, _, hiff⟩ := Lib.run_append_own_string (P := P) w 0 t t2 ty e inf hu hu2 hi1 hi2 hi3 hi4 v bs.length (byC.cells bs) hown ⟨l2.toArray⟩ (by rw [hsz]; unfold maxLen; omega) (by rw [hsz]; omega) (Nat.zero_le _)
  rw [hsz] at hown2 hiff
  have hex : (execOp a.eval ⟨some d, .call ⟨.builtin .append, #[s, x], #[t, t2]⟩, ty, pos, aft, none⟩).run P w = .ok (.value v2) w2 := by
    have hr3 : (Builtin.append_ #[t, t2] ty #[v, strV l2]).run P w = .ok v2 w2 := hr2
    simp [execOp, ha.eval hs, ha.eval hx, resolve, invoke, builtin, hr3]
  have heq : v1 = v2 ∧ w1 = w2 := by
    rcases hrun with h | ⟨h, _⟩
    · rw [hex] at h; cases h; exact ⟨rfl, rfl⟩
    · rw [hex] at h; cases h
  obtain ⟨rfl, rfl⟩ := heq
  refine ⟨v1, w1, .inl hex, ?_⟩
  have hfoot' : ∀ k, v1.ownBlock = some k → k ∈ foot' := by
    intro k hk'
    obtain ⟨_, ⟨e1, _, _⟩ | ⟨b1, c1, s1, e1, _, _, _, rfl⟩⟩ := o1
    · rw [e1] at hk'; cases hk'
    · rw [e1] at hk'; simp [Value.ownBlock] at hk'; simp [hk']
  refine hS.step i hi fun F ⟨eF, _⟩ => ⟨fun k => v1.ownBlock = some k, ⟨rfl, ?_, fun q => ?_⟩, fun k hk' => ?_, o2.agree fun k hk' => ?_⟩
  · rw [List.length_append, ← RowC.cells_app, ← strCells_eq l2]; exact hown2
  · obtain ⟨q1, q2⟩ := List.append_eq_nil_iff.1 q
    exact hiff.2 ⟨hnil q1, by rw [q2]; rfl⟩
  · rcases o3 k (hfoot' k hk') with q | q
    · exact .inl (by rw [eF]; exact (hfoot k).1 q)
    · exact .inr q
  · exact .inl (by rw [eF]; exact (hfoot k).1 hk')
end
end Go.Proofs.YtcbdclhoekokpaaGreatDoor
