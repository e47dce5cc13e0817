/- strings.Builder as things: its block (typed) and its buffer (typed). Conditions: each rule's own hypotheses. -/
import Derived.Test.YtfmkodmmbgibgaaGreatDoorCellP
import Derived.Lib.Builder
import Derived.Lib.UnsafeStr
import Derived.Laws.AppendOwn
import Derived.Laws.Externs
import Derived.LaidEql
import Derived.Lib.AppendStr
import Derived.Test.YtfmkodmmbgibgaaGreatDoorRefw
import Derived.Test.YtfmkodmmbgibgaaGreatDoorJn1
import Derived.Test.YtfmkodmmbgibgaaGreatDoorWr
namespace Go.Proofs.YtfmkodmmbgibgaaGreatDoor.M
open Go.RowKit
/-- a block of type T -/
def tblkT (T b : Nat) (cs : List Value) : Th where
  at_ := fun w F => (F = fun k => k = b) ∧ w.heap[b]? = some (.cells cs.toArray T (0, 0))
  fr := fun a ⟨e, h⟩ => ⟨e, by rw [a.blk _ (by rw [e])]; exact h⟩
  lt := fun {w F} ⟨e, h⟩ k hk => by
    rw [e] at hk; subst hk
    rcases Nat.lt_or_ge k w.heap.size with g | g
    · exact g
    · rw [Array.getElem?_eq_none g] at h; cases h
/-- a row of bytes, typed e -/
def bufT (e : Nat) (v : Value) (bs : List UInt8) : Th where
  at_ := fun w F => (F = fun k => v.ownBlock = some k) ∧ w.ownsRow 0 e 1 v bs.length (byC.cells bs) ∧ (bs = [] → v = .slice none 0 0)
  fr := fun {w w' F} a ⟨e1, ⟨hl, h⟩, hn⟩ => ⟨e1, ⟨hl, by
    rcases h with h | ⟨g, cap, cur, h1, h2, h3, h4⟩
    · exact .inl h
    · exact .inr ⟨g, cap, cur, h1, h2, by rw [a.blk _ (by rw [e1, h1]; rfl)]; exact h3, h4⟩⟩, hn⟩
  lt := fun {w F} ⟨e1, h, _⟩ k hk => by rw [e1] at hk; exact (h.lt k hk).2
/-- what a typed row is, untyped -/
theorem own_of_row {w : World} {e n : Nat} {v : Value} {xs : List Value} (h : w.ownsRow 0 e 1 v n xs) : ∃ foot, Own w v n 1 xs foot ∧ ∀ k, k ∈ foot ↔ v.ownBlock = some k := by
  obtain ⟨hl, ⟨rfl, rfl⟩ | ⟨g, cap, cur, rfl, _, hg, hc, _, hs, ht⟩⟩ := h
  · exact ⟨[], ⟨hl, .inl ⟨rfl, rfl, rfl⟩⟩, by simp [Value.ownBlock]⟩
  · have he : xs ++ cur.toList.drop (n * 1) = cur.toList := by rw [← ht]; exact List.take_append_drop _ _
    refine ⟨[g], ⟨hl, .inr ⟨g, cap, cur.toList.drop (n * 1), rfl, hc, ⟨e, 0, 0, ?_, .inl (Nat.le_refl _)⟩, ?_, rfl⟩⟩, by simp [Value.ownBlock, eq_comm]⟩
    · rw [he]; exact hg
    · rw [he]; simpa using hs
section
variable {P : Program} {n : Nat} {ops : Array Oper} {Q : Exit → Act → World → Prop} {rest : List Oper} {L : Env} {w : World} {d : Nat} {ty : TypeId} {pos : String} {aft : Array Edge} {As : List Th} {T e b : Nat} {cs : List Value}
theorem Sat.tblk (h : Sat w As) (i : Nat) (hi : As[i]? = some (tblkT T b cs)) : w.heap[b]? = some (.cells cs.toArray T (0, 0)) := by
  obtain ⟨F, _, h⟩ := h.get i hi; exact h
theorem Sat.tcell (h : Sat w As) (i : Nat) (hi : As[i]? = some (tblkT T b cs)) {o : Nat} {v : Value} (hv : cs[o]? = some v) : w.cell? ⟨b, o, none⟩ = some v := by
  rw [Lib.cell_of_heap (h.tblk i hi)]; simpa using hv
theorem Sat.tshape (h : Sat w As) (i : Nat) (hi : As[i]? = some (tblkT T b cs)) : w.shape? b = some (T, cs.length) := by
  simp [World.shape?, h.tblk i hi]
theorem Sat.buf (h : Sat w As) (i : Nat) {v : Value} {bs : List UInt8} (hi : As[i]? = some (bufT e v bs)) : w.ownsRow 0 e 1 v bs.length (byC.cells bs) ∧ (bs = [] → v = .slice none 0 0) := by
  obtain ⟨F, _, h⟩ := h.get i hi; exact h
/-- the shape of a buffer -/
theorem Sat.bufv (h : Sat w As) (i : Nat) {v : Value} {bs : List UInt8} (hi : As[i]? = some (bufT e v bs)) : ∃ ao cap, v = .slice ao bs.length cap ∧ v.oneCell' = true ∧ (ao = none ∧ bs = [] ∨ ∃ g, ao = some ⟨g, 0, none⟩ ∧ cap ≠ 0 ∧ bs ≠ []) := by
  obtain ⟨⟨_, ⟨rfl, h1⟩ | ⟨g, cap, cur, rfl, _, _, h1, _⟩⟩, hn⟩ := h.buf i hi
  · have : bs = [] := List.eq_nil_of_length_eq_zero h1
    subst this
    exact ⟨none, 0, rfl, rfl, .inl ⟨rfl, rfl⟩⟩
  · have hb : bs ≠ [] := fun e => by have := hn e; cases this
    have : 0 < bs.length := List.length_pos_iff.2 hb
    exact ⟨_, cap, rfl, rfl, .inr ⟨g, rfl, by omega, hb⟩⟩
/-- a new variable, its type kept -/
theorem wl_allocT {t : Nat} {z : Value} (hS : Sat w As) (hz : zeroOf P t = some (some z)) (hcs : z.cells.toList = cs) (hd : Nat.blt d n = true) (hk : ∀ b w', Sat w' (tblkT t b cs :: As) → wl P n ops Q rest ((d, ptrV b 0) :: L) w') : wl P n ops Q (⟨some d, .alloc t, ty, pos, aft, none⟩ :: rest) L w := by
  subst hcs
  refine wl_does rfl hd (R := fun v w' => v = ptrV w.heap.size 0 ∧ w' = w.alloc (.cells z.cells t)) (fun a ha => ⟨_, _, .inl ?_, rfl, rfl⟩) (fun v w' ⟨e1, e2⟩ => ?_)
  · simp [execOp, Instr.alloc, run_zeroOf hz, newVar, newRow]
  · subst e1 e2
    refine hk _ _ (hS.new ((Only.refl _ _).alloc _) (A := tblkT t w.heap.size z.cells.toList) (F' := fun k => k = w.heap.size) ⟨rfl, ?_⟩ (fun k hk => by rw [hk]; exact Nat.le_refl _))
    simpa using heap_alloc_new w (.cells z.cells t)
/-- a cell of a typed block is stored into -/
theorem wl_storeT {x y : Operand} {t o i : Nat} {v : Value} (hS : Sat w As) (hx : look L x = some (ptrV b o)) (hy : look L y = some v) (hs : szOf P t = some 1) (h1 : v.oneCell' = true) (hi : As[i]? = some (tblkT T b cs)) (ho : o < cs.length)
    (hk : ∀ w', Sat w' (As.set i (tblkT T b (cs.set o v))) → wl P n ops Q rest L w') : wl P n ops Q (⟨none, .store t x y, ty, pos, aft, none⟩ :: rest) L w := by
  have hb := hS.tblk i hi
  have hc := hS.tcell i hi (o := o) (List.getElem?_eq_getElem ho)
  have hf : w.frozen? ⟨b, o, none⟩ = false := Lib.frozen_of_heap hb o
  have hcs : v.cells = #[v] := by cases v <;> first | rfl | cases h1
  refine wl_does rfl rfl (R := fun _ w' => w' = w.setCell ⟨b, o, none⟩ v) (fun a ha => ⟨undef, _, .inr ⟨?_, rfl⟩, rfl⟩) (fun _ w' e => ?_)
  · have hst : (store ⟨b, o, none⟩ v).run P w = .ok () (w.setCell ⟨b, o, none⟩ v) := by
      rw [run_store P w _ v _ h1, hc]; simp [hf]
    have e0 : (⟨b, o, none⟩ : Addr).add 0 = ⟨b, o, none⟩ := by simp [Addr.add]
    simp [execOp, ha.eval hx, ha.eval hy, Instr.storeAt, Instr.sureAddr, storeVar, hcs, run_sizeOf hs, storeCells, e0, hst]
  · subst e
    refine hk _ (hS.step i hi fun F ⟨e1, _⟩ => ⟨F, ⟨e1, ?_⟩, fun k hk => .inl hk, ((Only.refl [b] w).setCell (.inl (by simp)) v).agree (fun x hx => .inl (by simp only [List.mem_singleton] at hx; subst hx; rw [e1]))⟩)
    simp [World.setCell, Array.getElem?_modify, hb]
/-- unsafe.SliceData of a buffer -/
theorem wl_sliceData {ao : Option Addr} {m cap : Nat} {ts : Array TypeId} {x : Operand} (hx : look L x = some (.slice ao m cap)) (h0 : ao = none ∨ cap ≠ 0) (hd : Nat.blt d n = true) (hk : wl P n ops Q rest ((d, .pointer ao) :: L) w) : wl P n ops Q (⟨some d, .call ⟨.builtin .unsafeSliceData, #[x], ts⟩, ty, pos, aft, none⟩ :: rest) L w := by
  refine wl_does rfl hd (R := fun v w' => v = .pointer ao ∧ w' = w) (fun a ha => ⟨_, _, .inl ?_, rfl, rfl⟩) (by rintro _ _ ⟨rfl, rfl⟩; exact hk)
  have hr : (Builtin.unsafeSliceData_ ts ty #[.slice ao m cap]).run P w = .ok (.pointer ao) w := by
    cases ao with
    | none => exact Lib.run_unsafeSliceData_nil w ts ty m cap
    | some q => exact Lib.run_unsafeSliceData_row w ts ty q m cap (by rcases h0 with h0 | h0; cases h0; exact h0)
  simp [execOp, ha.eval hx, resolve, invoke, builtin, hr]
/-- unsafe.String of a buffer: the buffer is given up -/
theorem wl_unsafeString {ao : Option Addr} {cap pt it : Nat} {bs : List UInt8} {x y : Operand} (i : Nat) (hS : Sat w As) (hi : As[i]? = some (bufT e (.slice ao bs.length cap) bs)) (hx : look L x = some (.pointer ao)) (hy : look L y = some (.int .i64 (bs.length : Int))) (hp : P.underlying pt = some (.pointer e)) (hc : P.cellsOf e = 1) (hlen : bs.length ≤ 9223372036854775807) (hd : Nat.blt d n = true)
    (hk : ∀ w', Sat w' (As.eraseIdx i) → wl P n ops Q rest ((d, strV bs) :: L) w') : wl P n ops Q (⟨some d, .call ⟨.builtin .unsafeString, #[x, y], #[pt, it]⟩, ty, pos, aft, none⟩ :: rest) L w := by
  obtain ⟨hown, hnil⟩ := hS.buf i hi
  have hg : ∃ w', (Builtin.unsafeString_ #[pt, it] ty #[.pointer ao, .int .i64 bs.length]).run P w = .ok (strV bs) w' ∧ Sat w' (As.eraseIdx i) := by
    by_cases h0 : bs = []
    · subst h0
      have hv := hnil rfl
      simp only [Value.slice.injEq, List.length_nil, true_and] at hv
      obtain ⟨rfl, _⟩ := hv
      exact ⟨w, Lib.run_unsafeString_none w pt it ty none, hS.drop i hi⟩
    · obtain ⟨_, ⟨hv, h1⟩ | ⟨g, cap', cur, hv, _, hgb, h1, _, h2, h3⟩⟩ := hown
      · exact absurd (List.eq_nil_of_length_eq_zero h1) h0
      · simp only [Value.slice.injEq, true_and] at hv
        obtain ⟨rfl, rfl⟩ := hv
        refine ⟨w.freeze ⟨g, 0, none⟩ bs.length, Lib.run_unsafeString_row w pt it ty e hp hc g cur.size (by simp [World.shape?, hgb]) bs h0 (by omega) hlen ?_, ?_⟩
        · intro j c hj
          rw [addr_add]
          simp only [Nat.zero_add]
          rw [Lib.cell_of_heap hgb]
          have hj' := (List.getElem?_eq_some_iff.1 hj).1
          have : (byC.cells bs)[j]? = some (.int .u8 (c.toNat : Int)) := by
            have := RowC.cells_at (C := byC) (l := bs) (j := j) hj
            have h3 := congrArg (fun q => q[0]?) this
            simpa [byC, List.getElem?_take, List.getElem?_drop] using h3
          rw [← h3, List.getElem?_take] at this
          split at this
          · simpa using this
          · cases this
        · have hp1 := hS.pull i hi
          obtain ⟨F, F1, F2, rfl, dj, ⟨e1, _⟩, h2'⟩ := hp1
          refine ⟨F2, (starL _).fr (F := F2) ?_ h2'⟩
          have hb := Lib.below_freeze (B := 0) (Below.refl 0 w) (p := ⟨g, 0, none⟩) (Nat.zero_le _) bs.length
          refine ⟨hb.os, hb.tape, hb.output, fun k hk' => ?_⟩
          have hne : k ≠ g := by
            rintro rfl
            exact dj k (by rw [e1]; rfl) hk'
          unfold World.freeze
          split
          · rfl
          · simp only [Array.getElem?_modify]
            rw [if_neg (fun q => hne q.symm)]
  obtain ⟨w', h1, h2⟩ := hg
  refine wl_does rfl hd (R := fun v u => v = strV bs ∧ u = w') (fun a ha => ⟨_, _, .inl ?_, rfl, rfl⟩) (by rintro _ _ ⟨rfl, rfl⟩; exact hk _ h2)
  simp [execOp, ha.eval hx, ha.eval hy, resolve, invoke, builtin, h1]
/-- a pointer to an unsafe one, and back -/
theorem wl_toUnsafe {src dst t o : Nat} {x : Operand} {j : TypeInfo} {S : Nat × Nat} (hx : look L x = some (ptrV b o)) (hs : P.underlying src = some (.pointer t)) (hd' : P.underlying dst = some .unsafePointer) (ht : P.info? t = some j) (hj : j.size ≠ 0) (hsh : w.shape? b = some S) (ho : o < S.2) (hd : Nat.blt d n = true) (hk : wl P n ops Q rest ((d, ptrV b o) :: L) w) : wl P n ops Q (⟨some d, .convert src dst x, ty, pos, aft, none⟩ :: rest) L w :=
  wl_val hd (fun ρ hρ => by
    have := Lib.run_to_unsafe (P := P) (w := w) (e := S.1) (cells := S.2) (⟨b, o, none⟩ : Addr) hs hd' ht hj hsh ho
    simp [execOp, hρ _ _ hx, ptrV, this]) hk
theorem wl_fromUnsafe {src dst u o : Nat} {x : Operand} {j : TypeInfo} {S : Nat × Nat} (hx : look L x = some (ptrV b o)) (hs : P.underlying src = some .unsafePointer) (hd' : P.underlying dst = some (.pointer u)) (hu : P.info? u = some j) (hsh : w.shape? b = some S) (hl : liesAt P P.depth S.1 (S.2 / P.cellsOf S.1) o u 1 = true) (hd : Nat.blt d n = true) (hk : wl P n ops Q rest ((d, ptrV b o) :: L) w) : wl P n ops Q (⟨some d, .convert src dst x, ty, pos, aft, none⟩ :: rest) L w :=
  wl_val hd (fun ρ hρ => by
    have := Lib.run_from_unsafe (P := P) (w := w) (e := S.1) (cells := S.2) (⟨b, o, none⟩ : Addr) hs hd' hu hsh hl
    simp [execOp, hρ _ _ hx, ptrV, this]) hk
/-- p != p -/
theorem wl_neqPtrSame {x y : Operand} {t t2 u : TypeId} {q : Addr} {j : TypeInfo} (hu : P.underlying t = some (.pointer u)) (hj : P.info? u = some j) (hx : look L x = some (.pointer (some q))) (hy : look L y = some (.pointer (some q))) (hd : Nat.blt d n = true) (hk : wl P n ops Q rest ((d, .bool false) :: L) w) : wl P n ops Q (⟨some d, .binOp .neq t x y t2, ty, pos, aft, none⟩ :: rest) L w :=
  wl_val hd (fun ρ hρ => by
    have h : (Op.equal t (.pointer (some q)) (.pointer (some q))).run P w = .ok true w := by
      unfold Op.equal Op.maxDepth Op.equalIn
      simp [run_underlying hu, sizeOf, typeInfo, hj, run_sameAddr_same]
    simp [execOp, hρ _ _ hx, hρ _ _ hy, eqGuard, binOp, h]) hk
/-- a function without a body that gives its argument back -/
theorem wl_extSame {f : Nat} {fn : Func} {x : Operand} {ts : Array TypeId} {v : Value} (hf : P.funcs[f]? = some fn) (hname : (fn.name == "runtime.NumGoroutine") = false) (hb : fn.body.isNone = true) (hn : Extern.findNext fn = none) (he : Extern.find fn = some Extern.AbiNoEscape.same)
    (hx : look L x = some v) (hd : Nat.blt d n = true) (hk : wl P n ops Q rest ((d, v) :: L) w) : wl P n ops Q (⟨some d, .call ⟨.value (.func f), #[x], ts⟩, ty, pos, aft, none⟩ :: rest) L w := by
  refine wl_does rfl hd (R := fun u w' => u = v ∧ w' = w) (fun a ha => ⟨_, _, .inl ?_, rfl, rfl⟩) (by rintro _ _ ⟨rfl, rfl⟩; exact hk)
  have hr : (Extern.AbiNoEscape.same #[v]).run P w = .ok v w := rfl
  have hc := run_callFunc_extern hf hname hb hn he #[v] w
  rw [hr] at hc
  simp only [execOp, resolve, Act.eval, Deferred.ofValue, invoke]
  have hxe := ha.eval hx
  simp
  rw [hxe, hc]; rfl
end
end Go.Proofs.YtfmkodmmbgibgaaGreatDoor.M
/- Appending a string's bytes to a builder's buffer. Conditions: each lemma's own hypotheses. -/
namespace Go.Proofs.YtfmkodmmbgibgaaGreatDoor
open Go.RowKit M
section
variable {P : Program} {n : Nat} {ops : Array Oper} {Q : Exit → Act → World → Prop} {rest : List Oper} {L : Env} {w : World} {d : Nat} {ty : TypeId} {pos : String} {aft : Array Edge} {As : List Th} {T e b : Nat} {cs : List Value}
theorem strCells_eq (l : List UInt8) : Lib.strCells ⟨l.toArray⟩ = byC.cells l := by
  rw [byC_cells]
  simp [Lib.strCells, bytesV]
theorem wl_bufAppS {t t2 : TypeId} {s x : Operand} {v : Value} {bs l2 : List UInt8} (i : Nat) (hS : Sat w As) (hi : As[i]? = some (bufT e v bs)) (hs : M.look L s = some v) (hx : M.look L x = some (strV l2)) (hu : P.underlying t = some (.slice e)) (hu2 : P.underlying t2 = some .string)
    (hif : (P.info? e).map (fun i => (i.zero, i.size, i.bytes)) = some (some (.int .u8 0), 1, 1)) (hm : bs.length + l2.length ≤ 140737488355328) (hd : Nat.blt d n = true)
    (hk : ∀ v' w', Sat w' (As.set i (bufT e v' (bs ++ l2))) → wl P n ops Q rest ((d, v') :: L) w') : wl P n ops Q (⟨some d, .call ⟨.builtin .append, #[s, x], #[t, t2]⟩, ty, pos, aft, none⟩ :: rest) L w := by
  obtain ⟨hown, hnil⟩ := hS.buf i hi
  obtain ⟨foot, hO, hfoot⟩ := own_of_row hown
  obtain ⟨inf, hi1, hi2, hi3, hi4⟩ := info_parts hif
  have hsz : (⟨l2.toArray⟩ : ByteArray).size = l2.length := by simp [ByteArray.size]
  refine wl_does rfl hd (R := fun v w' => Sat w' (As.set i (bufT e v (bs ++ l2)))) (fun a ha => ?_) (fun v w' hR => hk v w' hR)
  obtain ⟨v1, w1, hrun, foot', o1, o2, o3, _⟩ := does_append (P := P) (o := ⟨some d, .call ⟨.builtin .append, #[s, x], #[t, t2]⟩, ty, pos, aft, none⟩) (a := a) t t2 s x rfl (ha.eval hs) (ha.eval hx) hO hu hu2 (by intro k hk; cases hk) hif rfl (by decide) (m := l2.length) (news := byC.cells l2)
    (fun w1 => by simp [strV, Builtin.lenOf, hsz]) (fun w1 _ => by have := Lib.run_firstCells_string (P := P) w1 1 ⟨l2.toArray⟩; rw [hsz, strCells_eq] at this; exact this) (byC.cells_len l2) (allOne_spec (byC.cells_one l2)) (by omega) (by omega)
  obtain ⟨v2, w2, hr2, hown2, _, hiff⟩ := Lib.run_append_own_string (P := P) w 0 t t2 ty e inf hu hu2 hi1 hi2 hi3 hi4 v bs.length (byC.cells bs) hown ⟨l2.toArray⟩ (by rw [hsz]; unfold maxLen; omega) (by rw [hsz]; omega) (Nat.zero_le _)
  rw [hsz] at hown2 hiff
  have hex : (execOp a.eval ⟨some d, .call ⟨.builtin .append, #[s, x], #[t, t2]⟩, ty, pos, aft, none⟩).run P w = .ok (.value v2) w2 := by
    have hr3 : (Builtin.append_ #[t, t2] ty #[v, strV l2]).run P w = .ok v2 w2 := hr2
    simp [execOp, ha.eval hs, ha.eval hx, resolve, invoke, builtin, hr3]
  have heq : v1 = v2 ∧ w1 = w2 := by
    rcases hrun with h | ⟨h, _⟩
    · rw [hex] at h; cases h; exact ⟨rfl, rfl⟩
    · rw [hex] at h; cases h
  obtain ⟨rfl, rfl⟩ := heq
  refine ⟨v1, w1, .inl hex, ?_⟩
  have hfoot' : ∀ k, v1.ownBlock = some k → k ∈ foot' := by
    intro k hk'
    obtain ⟨_, ⟨e1, _, _⟩ | ⟨b1, c1, s1, e1, _, _, _, rfl⟩⟩ := o1
    · rw [e1] at hk'; cases hk'
    · rw [e1] at hk'; simp [Value.ownBlock] at hk'; simp [hk']
  refine hS.step i hi fun F ⟨eF, _⟩ => ⟨fun k => v1.ownBlock = some k, ⟨rfl, ?_, fun q => ?_⟩, fun k hk' => ?_, o2.agree fun k hk' => ?_⟩
  · rw [List.length_append, ← RowC.cells_app, ← strCells_eq l2]; exact hown2
  · obtain ⟨q1, q2⟩ := List.append_eq_nil_iff.1 q
    exact hiff.2 ⟨hnil q1, by rw [q2]; rfl⟩
  · rcases o3 k (hfoot' k hk') with q | q
    · exact .inl (by rw [eF]; exact (hfoot k).1 q)
    · exact .inr q
  · exact .inl (by rw [eF]; exact (hfoot k).1 hk')
end
end Go.Proofs.YtfmkodmmbgibgaaGreatDoor
/- strings.Builder: its methods -/
namespace Go.Proofs.YtfmkodmmbgibgaaGreatDoor
open Go.RowKit M
set_option linter.unusedVariables false
theorem ne1 : (Tryz.f129.name == "runtime.NumGoroutine") = false := by kernel_rfl
theorem ne2 : Tryz.f129.body.isNone = true := by kernel_rfl
theorem ne3 : Extern.findNext Tryz.f129 = none := by kernel_rfl
theorem ne4 : Extern.find Tryz.f129 = some Extern.AbiNoEscape.same := by kernel_rfl
theorem bl_info : (Tryz.prog.info? 120).map (fun j => decide (j.size ≠ 0)) = some true := by kernel_rfl
theorem bl_lies : liesAt Tryz.prog Tryz.prog.depth 120 (2 / Tryz.prog.cellsOf 120) 0 120 1 = true := by kernel_rfl
theorem bl_byte : Tryz.prog.cellsOf 5 = 1 := by kernel_rfl
theorem bl_some : ∃ j, Tryz.prog.info? 120 = some j ∧ j.size ≠ 0 := by
  have h := bl_info
  cases hq : Tryz.prog.info? 120 with
  | none => rw [hq] at h; cases h
  | some j => rw [hq] at h; exact ⟨j, rfl, by simpa using h⟩
theorem bl_check0 {w : World} {b : Nat} {v : Value} {F : Th} (hS : Sat w [tblkT 120 b [.pointer none, v], F]) :
    Calls Tryz.prog 113 #[ptrV b 0] w (Ret fun u_ w' => u_ = .tuple #[] ∧ Sat w' [tblkT 120 b [ptrV b 0, v], F]) := by
  obtain ⟨j, hj, hj0⟩ := bl_some
  refine calls_enter Tryz.func113 rfl Tryz.ntmps113 rfl ?_
  refine wc_seq ?_
  refine wc_region ?_
  refine wl_move rfl rfl ?_
  refine wl_nilCheck rfl rfl ?_
  refine wl_fieldAddr rfl fo_120_0 rfl ?_
  refine wl_load rfl ag_117 (hS.tcell 0 rfl (o := 0) rfl) rfl ?_
  refine wl_eqlNilNil Tryz.underlying117 rfl rfl rfl ?_
  refine wl_nil ?_
  refine qs_seq ?_
  refine wc_condT rfl ?_
  refine wc_region ?_
  refine wl_move rfl rfl ?_
  refine wl_move rfl rfl ?_
  refine wl_toUnsafe rfl Tryz.underlying117 Tryz.underlying158 hj hj0 (hS.tshape 0 rfl) (by simp) rfl ?_
  refine wl_extSame Tryz.func129 ne1 ne2 ne3 ne4 rfl rfl ?_
  refine wl_fromUnsafe rfl Tryz.underlying158 Tryz.underlying117 hj (hS.tshape 0 rfl) bl_lies rfl ?_
  refine wl_nilCheck rfl rfl ?_
  refine wl_fieldAddr rfl fo_120_0 rfl ?_
  refine wl_storeT hS rfl rfl sz_117 (by first | rfl | assumption) (i := 0) rfl (by simp) ?_
  intro w1 hS1; dsimp only [List.set] at hS1
  refine wl_nil ?_
  refine fin0 (.inl rfl) rfl ?_
  exact ⟨_, rfl, rfl, hS1⟩
theorem bl_check1 {w : World} {b : Nat} {v : Value} {F : Th} (hS : Sat w [tblkT 120 b [ptrV b 0, v], F]) :
    Calls Tryz.prog 113 #[ptrV b 0] w (Ret fun u_ w' => u_ = .tuple #[] ∧ Sat w' [tblkT 120 b [ptrV b 0, v], F]) := by
  obtain ⟨j, hj, hj0⟩ := bl_some
  refine calls_enter Tryz.func113 rfl Tryz.ntmps113 rfl ?_
  refine wc_seq ?_
  refine wc_region ?_
  refine wl_move rfl rfl ?_
  refine wl_nilCheck rfl rfl ?_
  refine wl_fieldAddr rfl fo_120_0 rfl ?_
  refine wl_load rfl ag_117 (hS.tcell 0 rfl (o := 0) rfl) rfl ?_
  refine wl_eqlNil Tryz.underlying117 rfl rfl rfl ?_
  refine wl_nil ?_
  refine qs_seq ?_
  refine wc_condF rfl ?_
  refine wc_seq ?_
  refine wc_region ?_
  refine wl_move rfl rfl ?_
  refine wl_nilCheck rfl rfl ?_
  refine wl_fieldAddr rfl fo_120_0 rfl ?_
  refine wl_load rfl ag_117 (hS.tcell 0 rfl (o := 0) rfl) rfl ?_
  refine wl_move rfl rfl ?_
  refine wl_neqPtrSame Tryz.underlying117 hj rfl rfl rfl ?_
  refine wl_nil ?_
  refine qs_seq ?_
  refine wc_sub (L' := [(19, _)]) (.cons rfl .nil) ?_
  refine wc_condF rfl ?_
  refine wc_skip ?_
  refine fin0 (.inl rfl) rfl ?_
  exact ⟨_, rfl, rfl, hS⟩
def bldT (b : Nat) (bs : Bs) : Th := exT fun q : Value × Value => starL [pureT (q.1 = .pointer none ∨ q.1 = ptrV b 0), tblkT 120 b [q.1, q.2], bufT 5 q.2 bs]
theorem bldT_open {w : World} {b : Nat} {bs : Bs} {As : List Th} (h : Sat w (bldT b bs :: As)) : ∃ p v, (p = .pointer none ∨ p = ptrV b 0) ∧ Sat w (tblkT 120 b [p, v] :: bufT 5 v bs :: As) := by
  obtain ⟨⟨p, v⟩, h⟩ := h.ex
  obtain ⟨h1, h2⟩ := h.flat.pure_elim
  exact ⟨p, v, h1, h2⟩
theorem bldT_shut {w : World} {b : Nat} {bs : Bs} {As : List Th} {p v : Value} (hp : p = .pointer none ∨ p = ptrV b 0) (h : Sat w (tblkT 120 b [p, v] :: bufT 5 v bs :: As)) : Sat w (bldT b bs :: As) :=
  Sat.ex_intro (p, v) (Sat.fold (As := [pureT _, tblkT 120 b [p, v], bufT 5 v bs]) (Sat.pure_intro hp h))
theorem bl_check {w : World} {b : Nat} {p v : Value} {F : Th} (hp : p = .pointer none ∨ p = ptrV b 0) (hS : Sat w [tblkT 120 b [p, v], F]) : Calls Tryz.prog 113 #[ptrV b 0] w (Ret fun u w' => u = .tuple #[] ∧ Sat w' [tblkT 120 b [ptrV b 0, v], F]) := by
  rcases hp with rfl | rfl
  · exact bl_check0 hS
  · exact bl_check1 hS
theorem bufT_nil {w : World} {As : List Th} {e : Nat} (h : Sat w As) : Sat w (bufT e (.slice none 0 0) [] :: As) :=
  h.new (Only.refl [] w) (A := bufT e (.slice none 0 0) []) (F' := fun k => Value.ownBlock (.slice none 0 0) = some k) ⟨rfl, World.ownsRow_nil w 0 e 1, fun _ => rfl⟩ (by simp [Value.ownBlock])
theorem bl_writeString {w : World} {b : Nat} {bs : Bs} {F : Th} (hS : Sat w [bldT b bs, F]) (s : Bs) (hl : bs.length + s.length ≤ 70368744177663) :
    Calls Tryz.prog 84 #[ptrV b 0, strV s] w (Ret fun v w' => v = .tuple #[intV (s.length : Int), .nilIface] ∧ Sat w' [bldT b (bs ++ s), F]) := by
  obtain ⟨p, v, hp, hS⟩ := bldT_open hS
  refine calls_enter Tryz.func84 rfl Tryz.ntmps84 rfl ?_
  refine wc_seq ?_
  refine wc_region ?_
  refine wl_assign rfl rfl ?_
  refine wl_assign rfl rfl ?_
  refine wl_nil ?_
  refine qs_seq ?_
  refine wc_seq ?_
  refine wc_region ?_
  refine wl_move rfl rfl ?_
  have hC1 := hS.split [0] [true, false, false] rfl; dsimp only [selF, pickA, nthA, List.cons_append, List.nil_append] at hC1
  refine wl_call cal_113 rfl (bl_check hp hC1) rfl ?_
  rintro e w1 ⟨_, rfl, rfl, hS1⟩; refine ⟨_, rfl, ?_⟩
  replace hS1 := hS1.join rfl; dsimp only [List.dropLast, List.cons_append, List.nil_append] at hS1; clear hC1
  refine wl_nil ?_
  refine qs_seq ?_
  refine wc_seq ?_
  refine wc_region ?_
  refine wl_move rfl rfl ?_
  refine wl_move rfl rfl ?_
  refine wl_nilCheck rfl rfl ?_
  refine wl_fieldAddr rfl fo_120_1 rfl ?_
  refine wl_load rfl ag_118 (hS1.tcell 0 rfl (o := 1) rfl) rfl ?_
  refine wl_move rfl rfl ?_
  refine wl_bufAppS 1 hS1 rfl rfl rfl Tryz.underlying118 Tryz.underlying9 ifo_5 (by omega) rfl ?_
  intro v2 w2 hS2; dsimp only [List.set] at hS2
  clear hS1
  obtain ⟨_, _, _, h1v2, _⟩ := hS2.bufv 1 rfl
  refine wl_nilCheck rfl rfl ?_
  refine wl_fieldAddr rfl fo_120_1 rfl ?_
  refine wl_storeT hS2 rfl rfl sz_118 (by first | rfl | assumption) (i := 0) rfl (by simp) ?_
  intro w3 hS3; dsimp only [List.set] at hS3
  clear hS2
  refine wl_nil ?_
  refine qs_seq ?_
  refine wc_sub (L' := [(5, _), (4, _), (1, _)]) (.cons rfl (.cons rfl (.cons rfl .nil))) ?_
  refine wc_seq ?_
  refine wc_region ?_
  refine wl_move rfl rfl ?_
  refine wl_lenS Tryz.underlying9 rfl rfl ?_
  refine wl_assign rfl rfl ?_
  refine wl_assign rfl rfl ?_
  refine wl_nil ?_
  refine qs_seq ?_
  refine wc_ret ?_
  refine fin2 (.inr rfl) rfl rfl rfl ?_
  exact ⟨_, rfl, rfl, bldT_shut (.inr rfl) (hS3.pick [0, 1, 2] rfl)⟩
theorem bl_string {w : World} {b : Nat} {bs : Bs} {F : Th} (hS : Sat w [bldT b bs, F]) (hl : bs.length ≤ 70368744177663) :
    Calls Tryz.prog 87 #[ptrV b 0] w (Ret fun v w' => v = strV bs ∧ Sat w' [F]) := by
  obtain ⟨p, v, hp, hS⟩ := bldT_open hS
  obtain ⟨ao, cap, rfl, h1v, hq⟩ := hS.bufv 1 rfl
  have hao : ao = none ∨ cap ≠ 0 := by rcases hq with ⟨h, _⟩ | ⟨_, _, h, _⟩; exact .inl h; exact .inr h
  refine calls_enter Tryz.func87 rfl Tryz.ntmps87 rfl ?_
  refine wc_seq ?_
  refine wc_region ?_
  refine wl_assign rfl rfl ?_
  refine wl_nil ?_
  refine qs_seq ?_
  refine wc_seq ?_
  have hS1 := hS.drew
  refine wc_draw [0, 1, 2, 3, 5, 6, 7, 8, 9, 4, 10, 11] [4, 10] mix (by kernel_rfl) ?_
  refine vc_p rfl rfl rfl (fun _ => (ev_move rfl)) ?_
  refine vc_p rfl rfl rfl (fun _ => (ev_nilCheck rfl)) ?_
  refine vc_p rfl rfl rfl (fun _ => (ev_fieldAddr rfl fo_120_1)) ?_
  refine vc_q rfl rfl rfl (ev_load rfl ag_118 (hS1.tcell 0 rfl (o := 1) rfl)) ?_
  refine vc_p rfl rfl rfl (fun _ => (ev_move rfl)) ?_
  refine vc_p rfl rfl rfl (fun _ => (ev_nilCheck rfl)) ?_
  refine vc_p rfl rfl rfl (fun _ => (ev_fieldAddr rfl fo_120_1)) ?_
  refine vc_q rfl rfl rfl (ev_load rfl ag_118 (hS1.tcell 0 rfl (o := 1) rfl)) ?_
  refine vc_p rfl rfl rfl (fun _ => (ev_lenL Tryz.underlying118 rfl)) ?_
  refine vc_s rfl rfl rfl rfl rfl rfl ?_
  refine wl_sliceData rfl hao rfl ?_
  refine vc_e (.cons (.inl ⟨rfl, (ev_load rfl ag_118 (hS1.tcell 0 rfl (o := 1) rfl))⟩) (.skip (by kernel_rfl) .nil)) ?_
  refine vc_s rfl rfl rfl rfl rfl rfl ?_
  refine wl_unsafeString 1 hS1 rfl rfl rfl Tryz.underlying146 bl_byte (by omega) rfl ?_
  intro w2 hS2; dsimp only [List.eraseIdx] at hS2
  clear hS1
  refine vc_e (.skip (by kernel_rfl) (.skip (by kernel_rfl) .nil)) ?_
  refine vc_p rfl rfl rfl (fun _ => (ev_assign rfl)) ?_
  refine VC.nil ?_
  refine qs_seq ?_
  refine wc_sub (L' := [(2, _)]) (.cons rfl .nil) ?_
  refine wc_ret ?_
  refine fin1 (.inr rfl) rfl rfl ?_
  exact ⟨_, rfl, rfl, hS2.tail⟩
end Go.Proofs.YtfmkodmmbgibgaaGreatDoor
/- journal: right, encode, decode -/
namespace Go.Proofs.YtfmkodmmbgibgaaGreatDoor
open Go.RowKit M
set_option linter.unusedVariables false
def bV (b : Blk) : List Value := [intV b.n, strV b.d]
def jbC : RowC Blk := ⟨bV, 2, by decide, fun _ => rfl, fun _ => rfl⟩
theorem okB_no {b : Blk} : okB b = false ↔ b.n < 0 ∨ 2048 ≤ b.n ∨ 64 < b.d.length := by
  rw [← Bool.not_eq_true, okB_iff]; omega
def bound20 (b : Blk) : Prop := inI b.n ∧ b.d.length ≤ 20000000
theorem wrong_sp {w : World} {F : Th} (hS : Sat w [F]) (x : Blk) :
    Calls Tryz.prog 82 #[.agg #[intV x.n, strV x.d]] w (Ret fun v w' => v = .bool (!(okB x)) ∧ Sat w' [F]) := by
  refine calls_enter Tryz.func82 rfl Tryz.ntmps82 rfl ?_
  refine wc_seq ?_
  refine wc_region ?_
  refine wl_box hS rfl rfl rfl ?_
  intro bp wp hSp0
  have hSp : Sat wp [blkT bp [intV x.n, strV x.d], F] := hSp0
  refine wl_assign rfl rfl ?_
  refine wl_nil ?_
  refine qs_seq ?_
  refine wc_seq ?_
  refine wc_region ?_
  refine wl_fieldAddr rfl fo_34_0 rfl ?_
  refine wl_load rfl ag_3 (by first | assumption | exact hSp.cell 0 rfl rfl) rfl ?_
  refine wl_lss rfl rfl rfl ?_
  refine wl_move rfl rfl ?_
  refine wl_splitD 6 rfl (fun h1 => ?_) (fun h1 => ?_)
  · skip
    refine wl_unwanted rfl rfl (decide_eq_true h1) rfl ?_
    refine wl_unwanted rfl rfl (decide_eq_true h1) rfl ?_
    refine wl_unwanted rfl rfl (decide_eq_true h1) rfl ?_
    refine wl_pickT rfl (decide_eq_true h1) rfl rfl ?_
    refine wl_move rfl rfl ?_
    refine wl_unwanted rfl rfl rfl rfl ?_
    refine wl_unwanted rfl rfl rfl rfl ?_
    refine wl_unwanted rfl rfl rfl rfl ?_
    refine wl_unwanted rfl rfl rfl rfl ?_
    refine wl_pickT rfl rfl rfl rfl ?_
    refine wl_assign rfl rfl ?_
    refine wl_nil ?_
    refine qs_seq ?_
    refine wc_sub (L' := [(2, _)]) (.cons rfl .nil) ?_
    refine wc_ret ?_
    refine fin1 (.inr rfl) rfl rfl ?_
    exact ⟨_, rfl, by rw [okB_no.2 (by omega)]; rfl, hSp.pick [1] rfl⟩
  refine wl_guard rfl rfl (decide_eq_false h1) ?_
  refine wl_fieldAddr rfl fo_34_0 rfl ?_
  refine wl_guard rfl rfl (decide_eq_false h1) ?_
  refine wl_load rfl ag_3 (by first | assumption | exact hSp.cell 0 rfl rfl) rfl ?_
  refine wl_guard rfl rfl (decide_eq_false h1) ?_
  refine wl_geq rfl rfl rfl ?_
  refine wl_pickF rfl (decide_eq_false h1) rfl rfl ?_
  refine wl_move rfl rfl ?_
  refine wl_splitD 11 rfl (fun h2 => ?_) (fun h2 => ?_)
  · skip
    refine wl_unwanted rfl rfl (decide_eq_true h2) rfl ?_
    refine wl_unwanted rfl rfl (decide_eq_true h2) rfl ?_
    refine wl_unwanted rfl rfl (decide_eq_true h2) rfl ?_
    refine wl_unwanted rfl rfl (decide_eq_true h2) rfl ?_
    refine wl_pickT rfl (decide_eq_true h2) rfl rfl ?_
    refine wl_assign rfl rfl ?_
    refine wl_nil ?_
    refine qs_seq ?_
    refine wc_sub (L' := [(2, _)]) (.cons rfl .nil) ?_
    refine wc_ret ?_
    refine fin1 (.inr rfl) rfl rfl ?_
    exact ⟨_, rfl, by rw [okB_no.2 (by omega)]; rfl, hSp.pick [1] rfl⟩
  refine wl_guard rfl rfl (decide_eq_false h2) ?_
  refine wl_fieldAddr rfl fo_34_1 rfl ?_
  refine wl_guard rfl rfl (decide_eq_false h2) ?_
  refine wl_load rfl ag_9 (by first | assumption | exact hSp.cell 0 rfl rfl) rfl ?_
  refine wl_guard rfl rfl (decide_eq_false h2) ?_
  refine wl_lenS Tryz.underlying9 rfl rfl ?_
  refine wl_guard rfl rfl (decide_eq_false h2) ?_
  refine wl_gtr rfl rfl rfl ?_
  refine wl_pickF rfl (decide_eq_false h2) rfl rfl ?_
  refine wl_assign rfl rfl ?_
  refine wl_nil ?_
  refine qs_seq ?_
  refine wc_sub (L' := [(2, _)]) (.cons rfl .nil) ?_
  refine wc_ret ?_
  refine fin1 (.inr rfl) rfl rfl ?_
  exact ⟨_, rfl, congrArg Value.bool (by rw [Bool.eq_iff_iff, decide_eq_true_eq, Bool.not_eq_true', okB_no]; omega), hSp.pick [1] rfl⟩
set_option maxRecDepth 100000 in
theorem bixf_sp {w : World} {F : Th} (hS : Sat w [F]) {lv : Value} {l : List Blk} (hL : Ent F (RdL jbC lv l)) (hln : l.length ≤ 1000000000) :
    Calls Tryz.prog 112 #[lv, .func (.func 82) #[] #[]] w (Ret fun v w' => ∃ r : Int, v = intV r ∧ (0 ≤ r ↔ l.all okB = false) ∧ Sat w' [F]) := by
  obtain ⟨ao, cap, rfl, hmax⟩ := (hL.sat hS 0 rfl).shape
  refine calls_enter Tryz.func112 rfl Tryz.ntmps112 rfl ?_
  refine wc_seq ?_
  refine wc_region ?_
  refine wl_assign rfl rfl ?_
  refine wl_nil ?_
  refine qs_seq ?_
  refine wc_seq ?_
  refine wc_seq ?_
  refine wc_region ?_
  refine wl_move rfl rfl ?_
  refine wl_lenL Tryz.underlying32 rfl rfl ?_
  refine wl_move rfl rfl ?_
  refine wl_nil ?_
  refine qs_seq ?_
  refine wc_block ?_
  refine wc_loop (fun K0 E0 W0 => ∃ (i : Nat), K0 = l.length - i ∧ E0 = [(0, .slice ao l.length cap), (1, .func (.func 82) #[] #[]), (7, intV (l.length : Int)), (8, intV (i : Int))] ∧ Sat W0 [F] ∧ (i ≤ l.length) ∧ (∀ j y, j < i → l[j]? = some y → okB y = true)) (L0 := [(0, _), (1, _), (7, _), (8, _)]) (l.length - 0) (.cons rfl (.cons rfl (.cons rfl (.cons rfl .nil)))) ⟨0, rfl, rfl, hS, by omega, by omega⟩ ?_
  rintro _ _ w1 ⟨i, rfl, rfl, hS1, hi, hno⟩
  refine wc_seq ?_
  refine wc_region ?_
  refine wl_lss rfl rfl rfl ?_
  refine wl_nil ?_
  refine qs_seq ?_
  refine wc_seq ?_
  refine wc_condD rfl (fun h2 => ?_) (fun h2 => ?_)
  · skip
    obtain ⟨x, hx⟩ : ∃ x, l[i]? = some x := ⟨_, List.getElem?_eq_getElem (by omega)⟩
    obtain ⟨b, off, rfl, hc⟩ := (hL.sat hS1 0 rfl).get hx
    refine wc_skip ?_
    refine qs_seq ?_
    refine wc_seq ?_
    refine wc_block ?_
    refine wc_seq ?_
    refine wc_region ?_
    refine wl_move rfl rfl ?_
    refine wl_assign rfl rfl ?_
    refine wl_nil ?_
    refine qs_seq ?_
    refine wc_seq ?_
    refine wc_region ?_
    refine wl_move rfl rfl ?_
    refine wl_move rfl rfl ?_
    refine wl_move rfl rfl ?_
    refine wl_indexAddr i rfl rfl (by first | rfl | omega) (by omega) es_32 rfl ?_
    refine wl_loadAt rfl ag_34 sz_34 (vs := bV x) hc rfl ?_
    have hC3 := hS1.split [] [false] rfl; dsimp only [selF, pickA, nthA, List.cons_append, List.nil_append] at hC3
    refine wl_callV rfl cal_82 rfl (wrong_sp hC3 x) rfl ?_
    rintro e w3 ⟨_, rfl, rfl, hS3⟩; refine ⟨_, rfl, ?_⟩
    replace hS3 := hS3.join rfl; dsimp only [List.dropLast, List.cons_append, List.nil_append] at hS3; clear hC3
    clear hS1
    refine wl_nil ?_
    refine qs_seq ?_
    refine wc_sub (L' := [(16, _), (5, _), (0, _), (1, _), (7, _), (8, _)]) (.cons rfl (.cons rfl (.cons rfl (.cons rfl (.cons rfl (.cons rfl .nil)))))) ?_
    refine wc_cond rfl (fun h4 => ?_) (fun h4 => ?_)
    · skip
      have hokx : okB x = false := by simpa using h4
      refine wc_seq ?_
      refine wc_region ?_
      refine wl_move rfl rfl ?_
      refine wl_assign rfl rfl ?_
      refine wl_nil ?_
      refine qs_seq ?_
      refine wc_ret ?_
      refine qs_block_ret ?_
      refine qs_then_ret ?_
      refine qs_then_ret ?_
      refine qs_block_ret ?_
      refine qs_then_ret ?_
      refine fin1 (.inr rfl) rfl rfl ?_
      exact ⟨_, rfl, _, rfl, ⟨fun _ => (by rw [← Bool.not_eq_true, List.all_eq_true]; exact fun q => by have := q x (List.mem_of_getElem? hx); rw [hokx] at this; cases this), fun _ => by omega⟩, hS3.pick [0] rfl⟩
    have hokx : okB x = true := by simpa using h4
    refine wc_skip ?_
    refine qs_block_normal ?_
    refine qs_seq ?_
    refine wc_region ?_
    refine wl_add rfl rfl (by omega) (by omega) rfl ?_
    refine wl_move rfl rfl ?_
    refine wl_nil ?_
    exact qs_round (L1 := [(0, _), (1, _), (7, _), (8, intV ((i + 1 : Nat) : Int))]) (.cons rfl (.cons rfl (.cons rfl (.cons rfl .nil)))) (k1 := l.length - (i + 1)) (by omega) ⟨i + 1, rfl, rfl, hS3.pick [0] rfl, by omega, fun j y hj hq => by by_cases e : j = i; (subst e; rw [hx] at hq; cases hq; exact hokx); exact hno j y (by omega) hq⟩
  refine wc_exit ?_
  refine qs_then_exit ?_
  refine qs_then_exit ?_
  refine qs_block_exit ?_
  refine qs_seq ?_
  refine wc_seq ?_
  refine wc_region ?_
  refine wl_assign rfl rfl ?_
  refine wl_nil ?_
  refine qs_seq ?_
  refine wc_ret ?_
  refine fin1 (.inr rfl) rfl rfl ?_
  exact ⟨_, rfl, _, rfl, ⟨fun q => absurd q (by omega), fun q => by rw [← Bool.not_eq_true, List.all_eq_true] at q; exact absurd (fun y hy => by obtain ⟨j, hj⟩ := List.mem_iff_getElem?.1 hy; exact hno j y (by have := (List.getElem?_eq_some_iff.1 hj).1; omega) hj) q⟩, hS1.pick [0] rfl⟩
theorem bctf_sp {w : World} {F : Th} (hS : Sat w [F]) {lv : Value} {l : List Blk} (hL : Ent F (RdL jbC lv l)) (hln : l.length ≤ 1000000000) :
    Calls Tryz.prog 83 #[lv, .func (.func 82) #[] #[]] w (Ret fun v w' => v = .bool (!(l.all okB)) ∧ Sat w' [F]) := by
  refine calls_enter Tryz.func83 rfl Tryz.ntmps83 rfl ?_
  refine wc_seq ?_
  refine wc_region ?_
  refine wl_assign rfl rfl ?_
  refine wl_nil ?_
  refine qs_seq ?_
  refine wc_seq ?_
  refine wc_region ?_
  refine wl_move rfl rfl ?_
  refine wl_move rfl rfl ?_
  have hC1 := hS.split [] [false] rfl; dsimp only [selF, pickA, nthA, List.cons_append, List.nil_append] at hC1
  refine wl_call cal_112 rfl (bixf_sp hC1 (hL.starL 0 rfl) hln) rfl ?_
  rintro e w1 ⟨_, rfl, r, rfl, hr, hS1⟩; refine ⟨_, rfl, ?_⟩
  replace hS1 := hS1.join rfl; dsimp only [List.dropLast, List.cons_append, List.nil_append] at hS1; clear hC1
  refine wl_geq rfl rfl rfl ?_
  refine wl_assign rfl rfl ?_
  refine wl_nil ?_
  refine qs_seq ?_
  refine wc_ret ?_
  refine fin1 (.inr rfl) rfl rfl ?_
  exact ⟨_, rfl, congrArg Value.bool (by rw [Bool.eq_iff_iff, decide_eq_true_eq, Bool.not_eq_true', hr]), hS1.pick [0] rfl⟩
set_option maxRecDepth 100000 in
theorem jright_sp {w : World} {F : Th} (hS : Sat w [F]) {lv : Value} {l : List Blk} (hL : Ent F (RdL jbC lv l)) (hln : l.length ≤ 1000000000) :
    Calls Tryz.prog 39 #[lv] w (Ret fun v w' => v = .bool (rightJ l) ∧ Sat w' [F]) := by
  obtain ⟨ao, cap, rfl, hmax⟩ := (hL.sat hS 0 rfl).shape
  refine calls_enter Tryz.func39 rfl Tryz.ntmps39 rfl ?_
  refine wc_seq ?_
  refine wc_region ?_
  refine wl_assign rfl rfl ?_
  refine wl_nil ?_
  refine qs_seq ?_
  refine wc_seq ?_
  refine wc_region ?_
  refine wl_assign rfl rfl ?_
  refine wl_nil ?_
  refine qs_seq ?_
  refine wc_seq ?_
  refine wc_region ?_
  refine wl_move rfl rfl ?_
  refine wl_lenL Tryz.underlying32 rfl rfl ?_
  refine wl_leq rfl rfl rfl ?_
  refine wl_move rfl rfl ?_
  refine wl_splitD 7 rfl (fun h1 => ?_) (fun h1 => ?_)
  · skip
    refine wl_guard rfl rfl (decide_eq_true h1) ?_
    refine wl_move rfl rfl ?_
    refine wl_guard rfl rfl (decide_eq_true h1) ?_
    refine wl_move rfl rfl ?_
    refine wl_guard rfl rfl (decide_eq_true h1) ?_
    have hC2 := hS.split [] [false] rfl; dsimp only [selF, pickA, nthA, List.cons_append, List.nil_append] at hC2
    refine wl_call cal_83 rfl (bctf_sp hC2 (hL.starL 0 rfl) hln) rfl ?_
    rintro e w2 ⟨_, rfl, rfl, hS2⟩; refine ⟨_, rfl, ?_⟩
    replace hS2 := hS2.join rfl; dsimp only [List.dropLast, List.cons_append, List.nil_append] at hS2; clear hC2
    refine wl_guard rfl rfl (decide_eq_true h1) ?_
    refine wl_not rfl rfl ?_
    refine wl_pickT rfl (decide_eq_true h1) rfl rfl ?_
    refine wl_assign rfl rfl ?_
    refine wl_nil ?_
    refine qs_seq ?_
    refine wc_sub (L' := [(2, _)]) (.cons rfl .nil) ?_
    refine wc_ret ?_
    refine fin1 (.inr rfl) rfl rfl ?_
    exact ⟨_, rfl, by unfold rightJ; rw [decide_eq_true (by omega : l.length ≤ 2048), Bool.true_and, Bool.not_not], hS2.pick [0] rfl⟩
  refine wl_unwanted rfl rfl (decide_eq_false h1) rfl ?_
  refine wl_unwanted rfl rfl (decide_eq_false h1) rfl ?_
  refine wl_unwanted rfl rfl (decide_eq_false h1) rfl ?_
  refine wl_unwanted rfl rfl (decide_eq_false h1) rfl ?_
  refine wl_pickF rfl (decide_eq_false h1) rfl rfl ?_
  refine wl_assign rfl rfl ?_
  refine wl_nil ?_
  refine qs_seq ?_
  refine wc_sub (L' := [(2, _)]) (.cons rfl .nil) ?_
  refine wc_ret ?_
  refine fin1 (.inr rfl) rfl rfl ?_
  exact ⟨_, rfl, by unfold rightJ; rw [decide_eq_false (by omega : ¬ l.length ≤ 2048), Bool.false_and], hS.pick [0] rfl⟩
theorem wNum_sp {w : World} {F : Th} (hS : Sat w [F]) (hG : Ent F WireG) (n : Int) (hn : inI n) (h0 : 0 ≤ n) :
    Calls Tryz.prog 85 #[intV n] w (Ret fun v w' => v = strV (encN n) ∧ Sat w' [F]) := by
  refine calls_enter Tryz.func85 rfl Tryz.ntmps85 rfl ?_
  refine wc_seq ?_
  refine wc_region ?_
  refine wl_assign rfl rfl ?_
  refine wl_nil ?_
  refine qs_seq ?_
  refine wc_seq ?_
  refine wc_seq ?_
  refine wc_region ?_
  refine wl_move rfl rfl ?_
  refine wl_lss rfl rfl rfl ?_
  refine wl_nil ?_
  refine qs_seq ?_
  refine wc_condD rfl (fun h1 => ?_) (fun h1 => ?_)
  · skip
    exact absurd h1 (by omega)
  refine wc_skip ?_
  refine qs_seq ?_
  refine wc_seq ?_
  refine wc_region ?_
  refine wl_move rfl rfl ?_
  have hC2 := hS.split [] [false] rfl; dsimp only [selF, pickA, nthA, List.cons_append, List.nil_append] at hC2
  refine wl_call cal_78 rfl (wInt_sp hC2 (hG.starL 0 rfl) n hn) rfl ?_
  rintro e w2 ⟨_, rfl, rfl, hS2⟩; refine ⟨_, rfl, ?_⟩
  replace hS2 := hS2.join rfl; dsimp only [List.dropLast, List.cons_append, List.nil_append] at hS2; clear hC2
  refine wl_assign rfl rfl ?_
  refine wl_nil ?_
  refine qs_seq ?_
  refine wc_ret ?_
  refine fin1 (.inr rfl) rfl rfl ?_
  exact ⟨_, rfl, rfl, hS2⟩
theorem encT_len1 {s : Bs} (h : s.length ≤ 20000000) : (encT s).length ≤ s.length + 40 := by
  have h1 := (itoa_len (n := (s.length : Int)) (by unfold inI; omega)).1
  unfold encT
  simp only [List.length_append, List.length_cons, List.length_nil]; omega
set_option maxRecDepth 100000 in
theorem encode_sp {w : World} {F : Th} (hS : Sat w [F]) (hG : Ent F WireG) {lv : Value} {l : List Blk} (hL : Ent F (RdL jbC lv l)) (hln : l.length ≤ 1000000000) (hok : ∀ x ∈ l, bound20 x) (hz : (l.flatMap encB).length ≤ 1000000000000) :
    Calls Tryz.prog 40 #[lv] w (Ret fun v w' => v = strV (encJ l) ∧ Sat w' [F]) := by
  obtain ⟨ao, cap, rfl, hmax⟩ := (hL.sat hS 0 rfl).shape
  refine calls_enter Tryz.func40 rfl Tryz.ntmps40 rfl ?_
  have hnl := encN_len (n := (l.length : Int)) (by unfold inI; omega)
  refine wc_seq ?_
  refine wc_region ?_
  refine wl_assign rfl rfl ?_
  refine wl_nil ?_
  refine qs_seq ?_
  refine wc_seq ?_
  refine wc_region ?_
  refine wl_allocT hS zr_120 (cs := [.pointer none, .slice none 0 0]) rfl rfl ?_
  intro bb wB hSB
  have hSC := bldT_shut (.inl rfl) ((bufT_nil hSB).perm (List.Perm.swap _ _ _))
  refine wl_nil ?_
  refine qs_seq ?_
  refine wc_seq ?_
  refine wc_region ?_
  refine wl_move rfl rfl ?_
  refine wl_lenL Tryz.underlying32 rfl rfl ?_
  have hC1 := hSC.split [] [false, false] rfl; dsimp only [selF, pickA, nthA, List.cons_append, List.nil_append] at hC1
  refine wl_call cal_85 rfl (wNum_sp hC1 (hG.starL 1 rfl) (l.length : Int) (by unfold inI; omega) (by omega)) rfl ?_
  rintro e w1 ⟨_, rfl, rfl, hS1⟩; refine ⟨_, rfl, ?_⟩
  replace hS1 := hS1.join rfl; dsimp only [List.dropLast, List.cons_append, List.nil_append] at hS1; clear hC1
  clear hSC
  have hC2 := hS1.split [0] [true, false] rfl; dsimp only [selF, pickA, nthA, List.cons_append, List.nil_append] at hC2
  refine wl_call cal_84 rfl (bl_writeString hC2 (encN (l.length : Int)) (by simp only [List.length_nil]; omega)) rfl ?_
  rintro e w2 ⟨_, rfl, rfl, hS2⟩; refine ⟨_, rfl, ?_⟩
  replace hS2 := hS2.join rfl; dsimp only [List.dropLast, List.cons_append, List.nil_append] at hS2; clear hC2
  clear hS1
  refine wl_nil ?_
  refine qs_seq ?_
  refine wc_seq ?_
  refine wc_seq ?_
  refine wc_region ?_
  refine wl_move rfl rfl ?_
  refine wl_lenL Tryz.underlying32 rfl rfl ?_
  refine wl_move rfl rfl ?_
  refine wl_nil ?_
  refine qs_seq ?_
  refine wc_block ?_
  refine wc_loop (fun K0 E0 W0 => ∃ (i : Nat), K0 = l.length - i ∧ E0 = [(3, ptrV bb 0), (10, .slice ao l.length cap), (11, intV (l.length : Int)), (12, intV (i : Int))] ∧ Sat W0 [bldT bb (encN (l.length : Int) ++ (l.take i).flatMap encB), F] ∧ (i ≤ l.length)) (L0 := [(3, _), (10, _), (11, _), (12, _)]) (l.length - 0) (.cons rfl (.cons rfl (.cons rfl (.cons rfl .nil)))) ⟨0, rfl, rfl, (by rw [List.take_zero, List.flatMap_nil, List.append_nil]; exact hS2), by omega⟩ ?_
  rintro _ _ w3 ⟨i, rfl, rfl, hS3, hi⟩
  have hft := flat_take l i
  refine wc_seq ?_
  refine wc_region ?_
  refine wl_lss rfl rfl rfl ?_
  refine wl_nil ?_
  refine qs_seq ?_
  refine wc_seq ?_
  refine wc_condD rfl (fun h4 => ?_) (fun h4 => ?_)
  · skip
    obtain ⟨x, hx⟩ : ∃ x, l[i]? = some x := ⟨_, List.getElem?_eq_getElem (by omega)⟩
    obtain ⟨b, off, rfl, hc⟩ := (hL.sat hS3 1 rfl).get hx
    have hox := hok x (List.mem_of_getElem? hx)
    have hxl := encB_fit hox.1 (by have := hox.2; omega)
    have hox2 := hox.2
    refine wc_skip ?_
    refine qs_seq ?_
    refine wc_seq ?_
    refine wc_block ?_
    refine wc_seq ?_
    refine wc_region ?_
    refine wl_indexAddr i rfl rfl (by first | rfl | omega) (by omega) es_32 rfl ?_
    refine wl_loadAt rfl ag_34 sz_34 (vs := bV x) hc rfl ?_
    refine wl_alloc hS3 zr_34 rfl rfl ?_
    intro b5 w5 hS5
    clear hS3
    first | (refine wl_storeA hS5 rfl rfl sz_34 rfl (by first | rfl | (simp [allOne, Value.oneCell']; done) | assumption | exact hone) (i := 0) rfl (by first | decide | exact Nat.le_of_ble_eq_true rfl | (simp; done) | omega) ?_) | (refine wl_storeA hS5 rfl rfl sz_34 rfl (by first | rfl | (simp [allOne, Value.oneCell']; done) | assumption | exact hone) (i := 1) rfl (by first | decide | exact Nat.le_of_ble_eq_true rfl | (simp; done) | omega) ?_)
    intro w6 hS7; dsimp only [List.set] at hS7
    clear hS5
    refine wl_nil ?_
    refine qs_seq ?_
    have hS8 := hS7.drew
    refine wc_draw [0, 1, 3, 4, 2, 5, 6, 7] [2, 5, 7] mix (by kernel_rfl) ?_
    refine vc_p rfl rfl rfl (fun _ => (ev_fieldAddr rfl fo_34_0)) ?_
    refine vc_q rfl rfl rfl (ev_load rfl ag_3 (by first | assumption | exact hS8.cell 0 rfl rfl | exact hS8.cell 1 rfl rfl)) ?_
    refine vc_p rfl rfl rfl (fun _ => (ev_fieldAddr rfl fo_34_1)) ?_
    refine vc_q rfl rfl rfl (ev_load rfl ag_9 (by first | assumption | exact hS8.cell 0 rfl rfl | exact hS8.cell 1 rfl rfl)) ?_
    refine vc_s rfl rfl rfl rfl rfl rfl ?_
    have hC9 := hS8.split [] [false, false, false] rfl; dsimp only [selF, pickA, nthA, List.cons_append, List.nil_append] at hC9
    refine wl_call cal_78 rfl (wInt_sp hC9 (hG.starL 2 rfl) x.n hox.1) rfl ?_
    rintro e w9 ⟨_, rfl, rfl, hS9⟩; refine ⟨_, rfl, ?_⟩
    replace hS9 := hS9.join rfl; dsimp only [List.dropLast, List.cons_append, List.nil_append] at hS9; clear hC9
    clear hS8
    have hil := (itoa_len hox.1).1
    refine vc_e (.cons (.inl ⟨rfl, (ev_load rfl ag_9 (by first | assumption | exact hS9.cell 0 rfl rfl | exact hS9.cell 1 rfl rfl))⟩) (.skip (by kernel_rfl) .nil)) ?_
    refine vc_s rfl rfl rfl rfl rfl rfl ?_
    have hC10 := hS9.split [] [false, false, false] rfl; dsimp only [selF, pickA, nthA, List.cons_append, List.nil_append] at hC10
    refine wl_call cal_86 rfl (wText_sp hC10 (hG.starL 2 rfl) x.d hox.2) rfl ?_
    rintro e w10 ⟨_, rfl, rfl, hS10⟩; refine ⟨_, rfl, ?_⟩
    replace hS10 := hS10.join rfl; dsimp only [List.dropLast, List.cons_append, List.nil_append] at hS10; clear hC10
    clear hS9
    have htl := encT_len1 hox.2
    refine vc_e (.skip (by kernel_rfl) (.skip (by kernel_rfl) .nil)) ?_
    refine vc_p rfl rfl rfl (fun _ => (ev_concat rfl rfl (by first | omega | (simp; omega)))) ?_
    refine vc_s rfl rfl rfl rfl rfl rfl ?_
    have hC11 := hS10.split [1] [false, true, false] rfl; dsimp only [selF, pickA, nthA, List.cons_append, List.nil_append] at hC11
    refine wl_call cal_84 rfl (bl_writeString hC11 (encB x) (by rw [List.length_append]; omega)) rfl ?_
    rintro e w11 ⟨_, rfl, rfl, hS11⟩; refine ⟨_, rfl, ?_⟩
    replace hS11 := hS11.join rfl; dsimp only [List.dropLast, List.cons_append, List.nil_append] at hS11; clear hC11
    clear hS10
    refine vc_e (.skip (by kernel_rfl) (.skip (by kernel_rfl) .nil)) ?_
    refine VC.nil ?_
    refine qs_block_normal ?_
    refine qs_seq ?_
    refine wc_sub (L' := [(3, _), (10, _), (11, _), (12, _)]) (.cons rfl (.cons rfl (.cons rfl (.cons rfl .nil)))) ?_
    refine wc_region ?_
    refine wl_add rfl rfl (by first | omega | (simp; omega)) (by first | omega | (simp; omega)) rfl ?_
    refine wl_move rfl rfl ?_
    refine wl_nil ?_
    exact qs_round (L1 := [(3, _), (10, _), (11, _), (12, intV ((i + 1 : Nat) : Int))]) (.cons rfl (.cons rfl (.cons rfl (.cons rfl .nil)))) (k1 := l.length - (i + 1)) (by omega) ⟨i + 1, rfl, rfl, by rw [flat_snoc hx, ← List.append_assoc]; exact hS11.pick [0, 2] rfl, by omega⟩
  refine wc_exit ?_
  refine qs_then_exit ?_
  refine qs_then_exit ?_
  refine qs_block_exit ?_
  refine qs_seq ?_
  refine wc_seq ?_
  refine wc_region ?_
  have hC12 := hS3.split [0] [true, false] rfl; dsimp only [selF, pickA, nthA, List.cons_append, List.nil_append] at hC12
  refine wl_call cal_87 rfl (bl_string hC12 (by rw [List.length_append]; omega)) rfl ?_
  rintro e w12 ⟨_, rfl, rfl, hS12⟩; refine ⟨_, rfl, ?_⟩
  replace hS12 := hS12.join rfl; dsimp only [List.dropLast, List.cons_append, List.nil_append] at hS12; clear hC12
  clear hS3
  refine wl_assign rfl rfl ?_
  refine wl_nil ?_
  refine qs_seq ?_
  refine wc_ret ?_
  refine fin1 (.inr rfl) rfl rfl ?_
  exact ⟨_, rfl, by rw [List.take_of_length_le (by omega)]; rfl, hS12.pick [0] rfl⟩
theorem bkSt_len (n : Nat) (s : St) : (bkSt n s).1.length ≤ s.1.length := by
  have := bks_fit n s; omega
theorem raw_ok {s : Bs} (h : s.length ≤ 20000000) : (∀ x ∈ rawJ s, bound20 x) ∧ ((rawJ s).flatMap encB).length ≤ 1000000000000 := by
  have h1 := raw_fit s
  have h2 : ∀ x ∈ rawJ s, bound20 x := fun x hx => ⟨bks_in x hx, by have := sumD_mem hx; omega⟩
  refine ⟨h2, ?_⟩
  have h3 := flat_fit (l := rawJ s) fun x hx => ⟨(h2 x hx).1, by have := (h2 x hx).2; omega⟩
  omega
set_option maxRecDepth 100000 in
theorem decode_sp {w : World} {F : Th} (hS : Sat w [F]) (hG : Ent F WireG) (s : Bs) (hz : s.length ≤ 20000000) :
    Calls Tryz.prog 79 #[strV s] w (Ret fun v w' => ∃ lv, v = .tuple #[lv, .bool (okJ s)] ∧ Sat w' [rowT jbC lv (rawJ s), F]) := by
  refine calls_enter Tryz.func79 rfl Tryz.ntmps79 rfl ?_
  refine wc_seq ?_
  refine wc_region ?_
  refine wl_assign rfl rfl ?_
  refine wl_assign rfl rfl ?_
  refine wl_nil ?_
  refine qs_seq ?_
  refine wc_seq ?_
  refine wc_region ?_
  refine wl_move rfl rfl ?_
  have hC1 := hS.split [] [false] rfl; dsimp only [selF, pickA, nthA, List.cons_append, List.nil_append] at hC1
  refine wl_call cal_76 rfl (wOpen_sp hC1 s) rfl ?_
  rintro e w1 ⟨_, rfl, rb, rfl, hS1⟩; refine ⟨_, rfl, ?_⟩
  replace hS1 := hS1.join rfl; dsimp only [List.dropLast, List.cons_append, List.nil_append] at hS1; clear hC1
  refine wl_assign rfl rfl ?_
  refine wl_nil ?_
  refine qs_seq ?_
  refine wc_seq ?_
  refine wc_region ?_
  refine wl_assign rfl rfl ?_
  refine wl_nil ?_
  refine qs_seq ?_
  refine wc_seq ?_
  refine wc_seq ?_
  have hnn := numV_nn 59 (s, false)
  refine wc_region ?_
  refine wl_move rfl rfl ?_
  have hC2 := hS1.split [0] [true, false] rfl; dsimp only [selF, pickA, nthA, List.cons_append, List.nil_append] at hC2
  refine wl_call cal_110 rfl (rNum_sp hC2 (hG.starL 0 rfl) (by dsimp only; omega)) rfl ?_
  rintro e w2 ⟨_, rfl, rfl, hS2⟩; refine ⟨_, rfl, ?_⟩
  replace hS2 := hS2.join rfl; dsimp only [List.dropLast, List.cons_append, List.nil_append] at hS2; clear hC2
  clear hS1
  refine wl_minI rfl rfl rfl ?_
  refine wl_move rfl rfl ?_
  refine wl_nil ?_
  refine qs_seq ?_
  refine wc_sub (L' := [(11, _), (10, _), (5, _), (4, _), (3, _), (2, _), (0, _)]) (.cons rfl (.cons rfl (.cons rfl (.cons rfl (.cons rfl (.cons rfl (.cons rfl .nil))))))) ?_
  refine wc_block ?_
  refine wc_loop (fun K0 E0 W0 => ∃ (i : Nat) (ov : Value), K0 = 2049 - i ∧ E0 = [(0, strV s), (4, ptrV rb 0), (5, ov), (10, intV (min (numV 59 0 (s, false)) 2049)), (11, intV (i : Int))] ∧ Sat W0 [readT rb (bkSt i (numR 59 0 (s, false))), rowT jbC ov (bksV i (numR 59 0 (s, false))), F] ∧ ((i : Int) ≤ (min (numV 59 0 (s, false)) 2049))) (L0 := [(0, _), (4, _), (5, _), (10, _), (11, _)]) (2049 - 0) (.cons rfl (.cons rfl (.cons rfl (.cons rfl (.cons rfl .nil))))) ⟨0, _, rfl, rfl, (hS2.row_nil jbC).pick [1, 0, 2] rfl, by omega⟩ ?_
  rintro _ _ w3 ⟨i, ov, rfl, rfl, hS3, hi⟩
  have hsl := bkSt_len i (numR 59 0 (s, false))
  have hrl := bksV_len i (numR 59 0 (s, false))
  have hs0 := numR_len 59 0 (s, false)
  dsimp only at hs0
  have h1ov : ov.oneCell' = true := hS3.own_one 1 rfl
  refine wc_seq ?_
  refine wc_region ?_
  refine wl_lss rfl rfl rfl ?_
  refine wl_nil ?_
  refine qs_seq ?_
  refine wc_seq ?_
  refine wc_condD rfl (fun h4 => ?_) (fun h4 => ?_)
  · skip
    refine wc_skip ?_
    refine qs_seq ?_
    refine wc_seq ?_
    refine wc_block ?_
    refine wc_region ?_
    refine wl_move rfl rfl ?_
    refine wl_move rfl rfl ?_
    have hq1 := numR_len 59 (-9223372036854775808) (bkSt i (numR 59 0 (s, false)))
    have hC5 := hS3.split [0] [true, false, false] rfl; dsimp only [selF, pickA, nthA, List.cons_append, List.nil_append] at hC5
    refine wl_call cal_77 rfl (rInt_sp hC5 (hG.starL 1 rfl) (by omega)) rfl ?_
    rintro e w5 ⟨_, rfl, rfl, hS5⟩; refine ⟨_, rfl, ?_⟩
    replace hS5 := hS5.join rfl; dsimp only [List.dropLast, List.cons_append, List.nil_append] at hS5; clear hC5
    clear hS3
    refine wl_move rfl rfl ?_
    have hC6 := hS5.split [0] [true, false, false] rfl; dsimp only [selF, pickA, nthA, List.cons_append, List.nil_append] at hC6
    refine wl_call cal_111 rfl (rText_sp hC6 (hG.starL 1 rfl) (by omega)) rfl ?_
    rintro e w6 ⟨_, rfl, rfl, hS6⟩; refine ⟨_, rfl, ?_⟩
    replace hS6 := hS6.join rfl; dsimp only [List.dropLast, List.cons_append, List.nil_append] at hS6; clear hC6
    clear hS5
    refine wl_buildS rfl pl_34_0_1 asz_34 zr_34 rfl rfl ?_
    refine wl_rowBuild jbC [bkV (bkSt i (numR 59 0 (s, false)))] hS6 rfl Tryz.underlying32 ifz_34 rfl rfl rfl rfl (by first | rfl | simp [RowC.cells, fillL, splice]) rfl ?_
    intro b7 w7 hS7
    clear hS6
    refine wl_rowApp jbC 2 hS7 rfl rfl rfl (hS7.rd 0 rfl (by simp)) Tryz.underlying32 Tryz.underlying32 (by intro k hk; cases hk) ifo_34 rfl (by simp only [List.length_cons, List.length_nil]; omega) rfl (by simp only [List.length_cons, List.length_nil]; omega) ?_
    intro v8 w8 hS8; dsimp only [List.set] at hS8
    clear hS7
    have h1v8 : v8.oneCell' = true := hS8.own_one 2 rfl
    refine wl_assign rfl rfl ?_
    refine wl_nil ?_
    refine qs_block_normal ?_
    refine qs_seq ?_
    refine wc_sub (L' := [(5, _), (0, _), (4, _), (10, _), (11, _)]) (.cons rfl (.cons rfl (.cons rfl (.cons rfl (.cons rfl .nil))))) ?_
    refine wc_region ?_
    refine wl_add rfl rfl (by first | omega | (simp; omega)) (by first | omega | (simp; omega)) rfl ?_
    refine wl_move rfl rfl ?_
    refine wl_nil ?_
    exact qs_round (L1 := [(0, _), (4, _), (5, _), (10, _), (11, intV ((i + 1 : Nat) : Int))]) (.cons rfl (.cons rfl (.cons rfl (.cons rfl (.cons rfl .nil))))) (k1 := 2049 - (i + 1)) (by omega) ⟨i + 1, _, rfl, rfl, (by rw [bksV_succ]; exact hS8.pick [1, 2, 3] rfl), by omega⟩
  refine wc_exit ?_
  refine qs_then_exit ?_
  refine qs_then_exit ?_
  refine qs_block_exit ?_
  refine qs_seq ?_
  refine wc_seq ?_
  have hni2 : cntJ s = i := by unfold cntJ; omega
  have hraw : bksV i (numR 59 0 (s, false)) = rawJ s := by unfold rawJ; rw [hni2]
  rw [hraw] at hS3 hrl
  refine wc_region ?_
  refine wl_move rfl rfl ?_
  refine wl_move rfl rfl ?_
  have hC9 := hS3.split [] [false, false, false] rfl; dsimp only [selF, pickA, nthA, List.cons_append, List.nil_append] at hC9
  refine wl_call cal_40 rfl (encode_sp hC9 (hG.starL 2 rfl) (Ent.starL (ent_row (C := jbC) (l := rawJ s) (by omega)) 1 rfl) (by omega) (raw_ok hz).1 (raw_ok hz).2) rfl ?_
  rintro e w9 ⟨_, rfl, rfl, hS9⟩; refine ⟨_, rfl, ?_⟩
  replace hS9 := hS9.join rfl; dsimp only [List.dropLast, List.cons_append, List.nil_append] at hS9; clear hC9
  clear hS3
  refine wl_move rfl rfl ?_
  refine wl_eqlS rfl rfl rfl ?_
  refine wl_move rfl rfl ?_
  refine wl_splitD 27 rfl (fun h10 => ?_) (fun h10 => ?_)
  · skip
    refine wl_guard rfl rfl (decide_eq_true h10) ?_
    refine wl_move rfl rfl ?_
    refine wl_guard rfl rfl (decide_eq_true h10) ?_
    have hC11 := hS9.split [] [false, false, false] rfl; dsimp only [selF, pickA, nthA, List.cons_append, List.nil_append] at hC11
    refine wl_call cal_39 rfl (jright_sp hC11 (Ent.starL (ent_row (C := jbC) (l := rawJ s) (by omega)) 1 rfl) (by omega)) rfl ?_
    rintro e w11 ⟨_, rfl, rfl, hS11⟩; refine ⟨_, rfl, ?_⟩
    replace hS11 := hS11.join rfl; dsimp only [List.dropLast, List.cons_append, List.nil_append] at hS11; clear hC11
    clear hS9
    refine wl_pickT rfl (decide_eq_true h10) rfl rfl ?_
    refine wl_assign rfl rfl ?_
    refine wl_assign rfl rfl ?_
    refine wl_nil ?_
    refine qs_seq ?_
    refine wc_sub (L' := [(3, _), (2, _)]) (.cons rfl (.cons rfl .nil)) ?_
    refine wc_ret ?_
    refine fin2 (.inr rfl) rfl rfl rfl ?_
    exact ⟨_, rfl, _, by unfold okJ; rw [decide_eq_true (by assumption), Bool.true_and], hS11.pick [1, 2] rfl⟩
  refine wl_unwanted rfl rfl (decide_eq_false h10) rfl ?_
  refine wl_unwanted rfl rfl (decide_eq_false h10) rfl ?_
  refine wl_pickF rfl (decide_eq_false h10) rfl rfl ?_
  refine wl_assign rfl rfl ?_
  refine wl_assign rfl rfl ?_
  refine wl_nil ?_
  refine qs_seq ?_
  refine wc_sub (L' := [(3, _), (2, _)]) (.cons rfl (.cons rfl .nil)) ?_
  refine wc_ret ?_
  refine fin2 (.inr rfl) rfl rfl rfl ?_
  exact ⟨_, rfl, _, by unfold okJ; rw [decide_eq_false (by assumption), Bool.false_and], hS9.pick [1, 2] rfl⟩
end Go.Proofs.YtfmkodmmbgibgaaGreatDoor
/- Functions that are handed as values and called one after the other, up to the first that does not answer 0. Conditions: the rules' own hypotheses. -/
namespace Go.Proofs.YtfmkodmmbgibgaaGreatDoor.M
open Go.RowKit
section
variable {P : Program} {n : Nat} {ops : Array Oper} {Q : Exit → Act → World → Prop} {rest : List Oper} {L : Env} {w : World} {ty : TypeId} {pos : String} {aft : Array Edge}
/-- a call of a function value, bound or a closure, without arguments -/
theorem wl_callF {dst : Option Nat} {x : Operand} {f : Nat} {fs cap : List Value} {ts : Array TypeId} {R : Ending → World → Prop} (hx : look L x = some (.func (.func f) fs.toArray cap.toArray)) (hf : callB P f = true) (hc : Calls P f (fs ++ cap).toArray w R) (hd : (match dst with | some d => Nat.blt d n | none => true) = true)
    (hk : ∀ e w', R e w' → ∃ v, e = .returned v ∧ wl P n ops Q rest (pd dst v L) w') : wl P n ops Q (⟨dst, .call ⟨.value x, #[], ts⟩, ty, pos, aft, none⟩ :: rest) L w := by
  unfold wl
  intro a hfr
  refine wpList_plain rfl fun K hK => ?_
  unfold Oper.wp
  have hr : (execOp a.eval ⟨dst, .call ⟨.value x, #[], ts⟩, ty, pos, aft, none⟩).run P w = .ok (.enter f (fs ++ cap).toArray) w := by
    simp only [execOp, resolve, hfr.eval hx, Deferred.ofValue, invoke]
    simp [callB_run hf]
  rw [hr]
  refine Calls.mono hc fun e w' hR => ?_
  obtain ⟨v, rfl, h⟩ := hk e w' hR
  unfold wl at h
  exact hK _ _ (h _ (hfr.put dst v hd))
end
/-- a function value -/
structure FnV where
  f : Nat
  fs : List Value
  cap : List Value
def FnV.v (g : FnV) : Value := .func (.func g.f) g.fs.toArray g.cap.toArray
def fnC : RowC FnV := ⟨fun g => [g.v], 1, by decide, fun _ => rfl, fun _ => rfl⟩
/-- calls, one after the other, up to the first that does not answer 0 -/
def runW {σ : Type} : List (σ → Int × σ) → σ → Int × σ
  | [], x => (0, x)
  | g :: gs, x => if (g x).1 ≠ 0 then g x else runW gs (g x).2
/-- what a function value does: it takes the state x of the things T to (g x).2, and answers (g x).1; the things C stay -/
def Stp {σ : Type} (P : Program) (T : σ → Th) (C : Th) (I : σ → Prop) (v : FnV) (g : σ → Int × σ) : Prop :=
  callB P v.f = true ∧ ∀ (x : σ) (w : World) (X : Th), I x → Sat w [T x, C, X] → Calls P v.f (v.fs ++ v.cap).toArray w (Ret fun u w' => u = intV (g x).1 ∧ I (g x).2 ∧ Sat w' [T (g x).2, C, X])
theorem runW_step {σ : Type} {gs : List (σ → Int × σ)} {i : Nat} {g : σ → Int × σ} (h : gs[i]? = some g) (x : σ) : runW (gs.drop i) x = if (g x).1 ≠ 0 then g x else runW (gs.drop (i + 1)) (g x).2 := by
  obtain ⟨hi, h2⟩ := List.getElem?_eq_some_iff.1 h
  rw [List.drop_eq_getElem_cons hi, h2]; rfl
theorem runW_end {σ : Type} {gs : List (σ → Int × σ)} {i : Nat} (h : gs.length ≤ i) (x : σ) : runW (gs.drop i) x = (0, x) := by
  rw [List.drop_eq_nil_iff.2 h]; rfl
end Go.Proofs.YtfmkodmmbgibgaaGreatDoor.M
