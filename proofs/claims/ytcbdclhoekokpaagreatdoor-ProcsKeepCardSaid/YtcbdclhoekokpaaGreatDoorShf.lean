/- The shelf's contracts as contracts of things: fresh copies of strings, sorting. Conditions: each one's own hypotheses. -/
import Derived.Test.YtcbdclhoekokpaaGreatDoorWld
import Derived.Sort.EncStr
import Derived.Sort.Grow
namespace Go.Proofs.YtcbdclhoekokpaaGreatDoor.M
open Go.RowKit Go.Sort

def stC : RowC (List UInt8) := ⟨fun s => [strV s], 1, by decide, fun _ => rfl, fun _ => rfl⟩
theorem stC_cells (l : List (List UInt8)) : stC.cells l = l.map strV := by induction l with | nil => rfl | cons a l ih => simp only [RowC.cells, List.flatMap_cons, List.map_cons] at ih ⊢; rw [ih]; rfl
theorem Sat.belowAll {w w' : World} {As : List Th} (h : Sat w As) (hb : RowKit.Below w.heap.size w w') : Sat w' As := h.only ⟨hb.os, hb.tape, hb.output, hb.size, fun k hk _ => hb.block k hk⟩
theorem calls_below {P : Program} {f : Nat} {args : Array Value} {w : World} {v : Value} {As : List Th} (hS : Sat w As) (h : Calls P f args w fun e w' => e = .returned v ∧ RowKit.Below w.heap.size w w') : Calls P f args w (Ret fun u w' => u = v ∧ Sat w' As) :=
  h.mono fun e w' ⟨h1, h2⟩ => ⟨v, h1, rfl, hS.belowAll h2⟩
def sortS (l : List (List UInt8)) : List (List UInt8) := l.mergeSort fun x y => decide (x ≤ y)
theorem sortS_perm (l : List (List UInt8)) : (sortS l).Perm l := List.mergeSort_perm _ _
theorem sortS_len (l : List (List UInt8)) : (sortS l).length = l.length := (sortS_perm l).length_eq
theorem putCells_all (d xs : List (List UInt8)) (sp : List Value) (h : d.length = xs.length) : (putCells encStr 0 d.toArray (xs.map strV ++ sp).toArray) = (d.map strV ++ sp).toArray := by
  apply Array.ext_getElem?
  intro k
  unfold putCells
  simp only [Array.getElem?_mapIdx, List.getElem?_toArray, Nat.zero_le, true_and, Nat.zero_add, Nat.sub_zero, List.size_toArray]
  by_cases hk : k < d.length
  · rw [List.getElem?_append_left (by simpa [← h] using hk), List.getElem?_append_left (by simpa using hk)]
    simp [hk, h ▸ hk, encStr, strV]
  · rw [List.getElem?_append_right (by simp; omega), List.getElem?_append_right (by simp; omega)]
    have hk' : ¬ k < xs.length := by omega
    simp only [List.length_map, h, hk', if_false, Option.map_id']
theorem calls_sort {P : Program} {f : Nat}
    (hsome : ∀ (blk off cap : Nat) (ss : List (List UInt8)) (w : World), Holds encStr w blk off ss.toArray → blk < w.heap.size → ss.length < 4611686018427387904 → Calls P f #[.slice (some ⟨blk, off, none⟩) ss.length cap] w fun e w' => e = .returned (.tuple #[]) ∧ ∃ n os, w' = grow (putRow encStr (Go.Sort.ahead w n) blk off (ss.mergeSort fun x y => decide (x ≤ y)).toArray) os)
    (hnone : ∀ (p : Option Addr) (cap : Nat) (w : World), Calls P f #[.slice p 0 cap] w fun e w' => e = .returned (.tuple #[]) ∧ w' = w)
    {w : World} {v : Value} {l : List (List UInt8)} {As : List Th} (hS : Sat w (rowT stC v l :: As)) (hl : l.length < 4611686018427387904) : Calls P f #[v] w (Ret fun u w' => u = .tuple #[] ∧ Sat w' (rowT stC v (sortS l) :: As)) := by
  obtain ⟨foot, hlen, h⟩ := hS.own 0 rfl
  rcases h with ⟨rfl, hn, hf⟩ | ⟨b, cap, sp, rfl, hcap, hb, hsz, hf⟩
  · have : l = [] := List.eq_nil_of_length_eq_zero hn
    subst this
    exact (hnone none 0 w).mono fun e w' ⟨h1, h2⟩ => ⟨_, h1, rfl, by rw [h2]; simpa [sortS] using hS⟩
  · have hH : Holds encStr w b 0 l.toArray := fun j hj => by
      have hj' : j < l.length := by simpa using hj
      rw [stC_cells] at hb
      refine ⟨?_, ?_⟩
      · rw [Nat.zero_add]
        refine hb.cell ?_
        rw [List.getElem?_append_left (by simpa using hj')]
        simp [hj', encStr, strV]
      · exact hb.free _ (by simp; omega)
    refine (hsome b 0 cap l w hH hb.lt hl).mono fun e w' ⟨h1, n, os, h2⟩ => ⟨_, h1, rfl, ?_⟩
    have hlt := hb.lt
    have hheap : ∀ k, k < w.heap.size → k ≠ b → w'.heap[k]? = w.heap[k]? := fun k hk hne => by
      rw [h2, heap_grow_old _ _ (by simpa using hk)]
      simp only [putRow, mapBlock, heap_ahead, Array.getElem?_modify]
      rw [if_neg (fun q => hne q.symm)]
    obtain ⟨T, lo, hi, hc, hfz⟩ := hb
    have hnew : w'.heap[b]? = some (.cells ((sortS l).map strV ++ sp).toArray T (lo, hi)) := by
      rw [h2, heap_grow_old _ _ (by simpa using hlt)]
      simp only [putRow, mapBlock, heap_ahead, Array.getElem?_modify, if_pos, hc, Option.map_some, onCells, stC_cells]
      rw [show (l.mergeSort fun x y => decide (x ≤ y)) = sortS l from rfl, putCells_all _ _ _ (sortS_len l)]
    have ho : Only [b] w w' := by
      refine ⟨?_, ?_, ?_, ?_, fun k hk hn => hheap k hk (by simpa using hn)⟩
      · rw [h2]; rfl
      · rw [h2]; rfl
      · rw [h2]; rfl
      · rw [h2]; simp
    have hfin := hS.own_set (w' := w') 0 rfl (v' := .slice (some ⟨b, 0, none⟩) l.length cap) (n' := l.length) (size' := 1) (xs' := stC.cells (sortS l)) (fun foot' g => by
      obtain ⟨_, g⟩ := g
      rcases g with ⟨g0, _⟩ | ⟨b', cap', sp', g0, g1, g2, g3, g4⟩
      · cases g0
      · simp only [Value.slice.injEq, Option.some.injEq, Addr.mk.injEq, and_true, true_and] at g0
        obtain ⟨rfl, rfl⟩ := g0
        refine ⟨[b], ⟨?_, .inr ⟨b, cap, sp, rfl, hcap, ⟨T, lo, hi, ?_, ?_⟩, ?_, rfl⟩⟩, ?_, ?_⟩
        · rw [stC.cells_len, sortS_len]; rfl
        · rw [stC_cells]; exact hnew
        · rcases hfz with q | q
          · exact .inl q
          · refine .inr ?_
            simp only [List.length_append, stC.cells_len, sortS_len] at q ⊢; exact q
        · simp only [List.length_append, stC.cells_len, sortS_len] at hsz ⊢; exact hsz
        · rw [g4]; exact ho
        · rw [g4]; intro k hk; exact .inl hk)
    have e : (sortS l).length = l.length := sortS_len l
    show Sat w' (ownT _ (sortS l).length 1 _ :: As)
    rw [e]; exact hfin
end Go.Proofs.YtcbdclhoekokpaaGreatDoor.M
