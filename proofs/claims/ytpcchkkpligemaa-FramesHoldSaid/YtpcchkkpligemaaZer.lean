/- append(s, make([]T, m)...): a law of memory more. -/
import Derived.Test.YtpcchkkpligemaaMem
namespace Go.Proofs.Ytpcchkkpligemaa.M
open Go.RowKit

section
variable {P : Program}
/-- append(s, make([]T, m)...) -/
theorem does_append_zeros {o : Oper} {a : Act} {w : World} (t ti : TypeId) (s x : Operand) (ho : o.op = .call { callee := .builtin .append, args := #[s, x], argTypes := #[t, ti] })
    {sv : Value} {n size bytes m : Nat} {xs : List Value} {foot : List Nat} (hown : Own w sv n size xs foot) (hs : a.eval s = sv) {k kt : IntKind} (hx : a.eval x = .int k (m : Int))
    {e : TypeId} {z : Value} (hu : P.underlying t = some (.slice e)) (hu2 : P.underlying ti = some (.int kt))
    (hi : (P.info? e).map (fun i => (i.zero, i.size, i.bytes)) = some (some z, size, bytes)) (hzs : z.cells.size = size) (h0 : 0 < size) (hm0 : 0 < m) (h1 : ∀ v ∈ z.cells.toList, v.oneCell' = true)
    (hbytes : (n + m) * bytes ≤ 140737488355328) (hmax : n + m ≤ 9223372036854775807) :
    does P o a w (fun v w' => ∃ foot', Own w' v (n + m) size (xs ++ (List.replicate m z.cells.toList).flatten) foot' ∧ Only foot w w' ∧ (∀ k ∈ foot', k ∈ foot ∨ w.heap.size ≤ k) ∧ v ≠ .slice none 0 0) := by
  obtain ⟨i, hi1, hi2, hi3, hi4⟩ := info_parts hi
  have hzc : (Builtin.zeroCells z.cells m).toList = (List.replicate m z.cells.toList).flatten := madeCells_toList _ _
  have hnl : (List.replicate m z.cells.toList).flatten.length = m * size := by rw [flat_len]; simp [hzs]
  have h1' : ∀ v ∈ (List.replicate m z.cells.toList).flatten, v.oneCell' = true := fun v hv => by
    simp only [List.mem_flatten, List.mem_replicate] at hv
    obtain ⟨l, ⟨_, rfl⟩, hv⟩ := hv
    exact h1 v hv
  have hll : (xs ++ (List.replicate m z.cells.toList).flatten).length = (n + m) * size := by rw [List.length_append, hown.1, hnl, Nat.add_mul]
  have hex : ∀ v w', (Builtin.append_ #[t, ti] o.type #[sv, .int k (m : Int)]).run P w = .ok v w' → (execOp a.eval o).run P w = .ok (.value v) w' := fun v w' hr => by
    simp [execOp, ho, hs, hx, resolve, invoke, builtin, hr]
  have hzv : ∀ w1, (zeroValue e).run P w1 = .ok z w1 := fun w1 => by simp [zeroValue, typeInfo, hi1, hi2]
  have hwrap : IntKind.i64.wrap (m : Int) = (m : Int) := by rw [IntKind.wrap_i64]; omega
  have hmb : m * bytes ≤ 140737488355328 := Nat.le_trans (Nat.mul_le_mul_right _ (by omega)) hbytes
  have hmb' : ¬ (281474976710656 < (m : Int) * (i.bytes : Int)) := by
    rw [hi4]
    have h : ((m * bytes : Nat) : Int) ≤ 140737488355328 := by omega
    rw [Int.natCast_mul] at h; omega
  have hms : ¬ (m * i.size = 0) := by rw [hi3]; have := Nat.mul_pos hm0 h0; omega
  have hm0' : m ≠ 0 := by omega
  have hneg : ¬ ((m : Int) < 0) := by omega
  have hs0' : i.size ≠ 0 := by omega
  have grows : ∀ (base : Option Addr) (cap : Nat), ¬ n + m ≤ cap → (Builtin.firstCells size n (.slice base n cap)).run P w.drew = .ok xs.toArray w.drew →
      ∃ w' cap' sp, (Builtin.append_ #[t, ti] o.type #[.slice base n cap, .int k (m : Int)]).run P w = .ok (.slice (some ⟨w.heap.size, 0, none⟩) (n + m) cap') w' ∧ n + m ≤ cap' ∧ Blk w' w.heap.size (xs ++ (List.replicate m z.cells.toList).flatten ++ sp) ∧
        (xs ++ (List.replicate m z.cells.toList).flatten ++ sp).length = cap' * size ∧ Only [] w w' := by
    intro base cap hroom hold
    have hge := grownCap_ge w (n + m) cap e
    have h48 : ¬ (281474976710656 < Builtin.nextslicecap (n + m) cap * i.bytes) := by rw [hi4]; have := growslice_fits (need := n + m) (old := cap) (bytes := bytes) (by omega) hbytes; omega
    have hmx : ¬ (9223372036854775807 < (n : Int) + (m : Int)) := by omega
    refine ⟨w.drew.alloc (.cells (xs.toArray ++ Builtin.zeroCells z.cells m ++ Builtin.zeroCells z.cells (grownCap w (n + m) cap e - (n + m))) e), grownCap w (n + m) cap e, (Builtin.zeroCells z.cells (grownCap w (n + m) cap e - (n + m))).toList, ?_, hge, ?_, ?_, ((Only.refl _ _).drew).alloc _⟩
    · rw [← hi3] at hold
      simp [Builtin.append_, run_underlying hu, run_underlying hu2, sizeOf, typeInfo, hi1, asInt, asIntOf, hwrap, hmb', hneg, hroom, h48, hmx, hzv, hold, hms, hm0', hs0', Question.forced, newRow, grownCap]
    · have := Blk.new' w.drew (xs.toArray ++ Builtin.zeroCells z.cells m ++ Builtin.zeroCells z.cells (grownCap w (n + m) cap e - (n + m))) e
      rw [Array.toList_append, Array.toList_append, hzc] at this
      exact this
    · simp only [List.length_append, Array.length_toList, size_zeroCells, hzs, hnl, hown.1, ← Nat.add_mul]
      congr 1; omega
  obtain ⟨hl, ⟨rfl, rfl, rfl⟩ | ⟨b, cap, sp, rfl, hc, hb, hlen, rfl⟩⟩ := id hown
  · have hxs : xs = [] := List.eq_nil_of_length_eq_zero (by simpa using hl)
    subst hxs
    obtain ⟨w', cap', sp, hr, hc', hb', hl', ho'⟩ := grows none 0 (by omega) (by simp [Builtin.firstCells])
    exact ⟨_, w', .inl (hex _ _ hr), [w.heap.size], ⟨hll, .inr ⟨_, cap', sp, rfl, hc', hb', hl', rfl⟩⟩, ho', by simp, by simp⟩
  · by_cases hroom : n + m ≤ cap
    · have hfit : n * size + m * size ≤ cap * size := by rw [← Nat.add_mul]; exact Nat.mul_le_mul_right _ hroom
      obtain ⟨w', hr, hb', ho', hs'⟩ := run_storeCells_blk (P := P) (List.replicate m z.cells.toList).flatten 0 (xs ++ sp) w b (n * size) hb (by omega) h1'
      have he : splice (xs ++ sp) (n * size + 0) (List.replicate m z.cells.toList).flatten = xs ++ (List.replicate m z.cells.toList).flatten ++ sp.drop (m * size) := by
        unfold splice
        rw [Nat.add_zero, ← hl, List.take_left, List.drop_append]
        simp [hzs]
      rw [he] at hb'
      refine ⟨_, w', .inl (hex (.slice (some ⟨b, 0, none⟩) (n + m) cap) w' ?_), [b], ⟨hll, .inr ⟨b, cap, sp.drop (m * size), rfl, hroom, hb', ?_, rfl⟩⟩, ho', by simp, by simp⟩
      · rw [← hzc, ← hi3] at hr
        simp [Builtin.append_, run_underlying hu, run_underlying hu2, sizeOf, typeInfo, hi1, asInt, asIntOf, hwrap, hmb', hneg, hroom, hzv, hms, hm0', hs0', addr_add, hr]
      · simp only [List.length_append, List.length_drop, hnl, hl] at hlen ⊢
        omega
    · have hold := run_firstCells_blk (P := P) (w := w.drew) (b := b) (cs := xs ++ sp) hb size n 0 n cap (by simp [hl])
      simp only [List.drop_zero] at hold
      rw [← hl, List.take_left] at hold
      obtain ⟨w', cap', sp', hr, hc', hb', hl', ho'⟩ := grows (some ⟨b, 0, none⟩) cap hroom hold
      exact ⟨_, w', .inl (hex _ _ hr), [w.heap.size], ⟨hll, .inr ⟨_, cap', sp', rfl, hc', hb', hl', rfl⟩⟩, ho'.mono (by simp), by simp, by simp⟩
end
end Go.Proofs.Ytpcchkkpligemaa.M
