/- strings.Builder as things: its block (typed) and its buffer (typed). Conditions: each rule's own hypotheses. -/
import Derived.Test.YtcbdclhoekokpaaGreatDoorRow
import Derived.Lib.Builder
import Derived.Lib.UnsafeStr
import Derived.Laws.AppendOwn
import Derived.Laws.Externs
import Derived.LaidEql
import Derived.Lib.AppendStr
namespace Go.Proofs.YtcbdclhoekokpaaGreatDoor.M
open Go.RowKit
/-- a block of type T -/
def tblkT (T b : Nat) (cs : List Value) : Th where
  at_ := fun w F => (F = fun k => k = b) ∧ w.heap[b]? = some (.cells cs.toArray T (0, 0))
  fr := fun a ⟨e, h⟩ => ⟨e, by rw [a.blk _ (by rw [e])]; exact h⟩
  lt := fun {w F} ⟨e, h⟩ k hk => by
    rw [e] at hk; subst hk
    rcases Nat.lt_or_ge k w.heap.size with g | g
    · exact g
    · rw [Array.getElem?_eq_none g] at h; cases h
/-- a row of bytes, typed e -/
def bufT (e : Nat) (v : Value) (bs : List UInt8) : Th where
  at_ := fun w F => (F = fun k => v.ownBlock = some k) ∧ w.ownsRow 0 e 1 v bs.length (byC.cells bs) ∧ (bs = [] → v = .slice none 0 0)
  fr := fun {w w' F} a ⟨e1, ⟨hl, h⟩, hn⟩ => ⟨e1, ⟨hl, by
    rcases h with h | ⟨g, cap, cur, h1, h2, h3, h4⟩
    · exact .inl h
    · exact .inr ⟨g, cap, cur, h1, h2, by rw [a.blk _ (by rw [e1, h1]; rfl)]; exact h3, h4⟩⟩, hn⟩
  lt := fun {w F} ⟨e1, h, _⟩ k hk => by rw [e1] at hk; exact (h.lt k hk).2
/-- what a typed row is, untyped -/
theorem own_of_row {w : World} {e n : Nat} {v : Value} {xs : List Value} (h : w.ownsRow 0 e 1 v n xs) : ∃ foot, Own w v n 1 xs foot ∧ ∀ k, k ∈ foot ↔ v.ownBlock = some k := by
  obtain ⟨hl, ⟨rfl, rfl⟩ | ⟨g, cap, cur, rfl, _, hg, hc, _, hs, ht⟩⟩ := h
  · exact ⟨[], ⟨hl, .inl ⟨rfl, rfl, rfl⟩⟩, by simp [Value.ownBlock]⟩
  · have he : xs ++ cur.toList.drop (n * 1) = cur.toList := by rw [← ht]; exact List.take_append_drop _ _
    refine ⟨[g], ⟨hl, .inr ⟨g, cap, cur.toList.drop (n * 1), rfl, hc, ⟨e, 0, 0, ?_, .inl (Nat.le_refl _)⟩, ?_, rfl⟩⟩, by simp [Value.ownBlock, eq_comm]⟩
    · rw [he]; exact hg
    · rw [he]; simpa using hs
section
variable {P : Program} {n : Nat} {ops : Array Oper} {Q : Exit → Act → World → Prop} {rest : List Oper} {L : Env} {w : World} {d : Nat} {ty : TypeId} {pos : String} {aft : Array Edge} {As : List Th} {T e b : Nat} {cs : List Value}
theorem Sat.tblk (h : Sat w As) (i : Nat) (hi : As[i]? = some (tblkT T b cs)) : w.heap[b]? = some (.cells cs.toArray T (0, 0)) := by
  obtain ⟨F, _, h⟩ := h.get i hi; exact h
theorem Sat.tcell (h : Sat w As) (i : Nat) (hi : As[i]? = some (tblkT T b cs)) {o : Nat} {v : Value} (hv : cs[o]? = some v) : w.cell? ⟨b, o, none⟩ = some v := by
  rw [Lib.cell_of_heap (h.tblk i hi)]; simpa using hv
theorem Sat.tshape (h : Sat w As) (i : Nat) (hi : As[i]? = some (tblkT T b cs)) : w.shape? b = some (T, cs.length) := by
  simp [World.shape?, h.tblk i hi]
theorem Sat.buf (h : Sat w As) (i : Nat) {v : Value} {bs : List UInt8} (hi : As[i]? = some (bufT e v bs)) : w.ownsRow 0 e 1 v bs.length (byC.cells bs) ∧ (bs = [] → v = .slice none 0 0) := by
  obtain ⟨F, _, h⟩ := h.get i hi; exact h
/-- the shape of a buffer -/
theorem Sat.bufv (h : Sat w As) (i : Nat) {v : Value} {bs : List UInt8} (hi : As[i]? = some (bufT e v bs)) : ∃ ao cap, v = .slice ao bs.length cap ∧ v.oneCell' = true ∧ (ao = none ∧ bs = [] ∨ ∃ g, ao = some ⟨g, 0, none⟩ ∧ cap ≠ 0 ∧ bs ≠ []) := by
  obtain ⟨⟨_, ⟨rfl, h1⟩ | ⟨g, cap, cur, rfl, _, _, h1, _⟩⟩, hn⟩ := h.buf i hi
  · have : bs = [] := List.eq_nil_of_length_eq_zero h1
    subst this
    exact ⟨none, 0, rfl, rfl, .inl ⟨rfl, rfl⟩⟩
  · have hb : bs ≠ [] := fun e => by have := hn e; cases this
    have : 0 < bs.length := List.length_pos_iff.2 hb
    exact ⟨_, cap, rfl, rfl, .inr ⟨g, rfl, by omega, hb⟩⟩
/-- a new variable, its type kept -/
theorem wl_allocT {t : Nat} {z : Value} (hS : Sat w As) (hz : zeroOf P t = some (some z)) (hcs : z.cells.toList = cs) (hd : Nat.blt d n = true) (hk : ∀ b w', Sat w' (tblkT t b cs :: As) → wl P n ops Q rest ((d, ptrV b 0) :: L) w') : wl P n ops Q (⟨some d, .alloc t, ty, pos, aft, none⟩ :: rest) L w := by
  subst hcs
  refine wl_does rfl hd (R := fun v w' => v = ptrV w.heap.size 0 ∧ w' = w.alloc (.cells z.cells t)) (fun a ha => ⟨_, _, .inl ?_, rfl, rfl⟩) (fun v w' ⟨e1, e2⟩ => ?_)
  · simp [execOp, Instr.alloc, run_zeroOf hz, newVar, newRow]
  · subst e1 e2
    refine hk _ _ (hS.new ((Only.refl _ _).alloc _) (A := tblkT t w.heap.size z.cells.toList) (F' := fun k => k = w.heap.size) ⟨rfl, ?_⟩ (fun k hk => by rw [hk]; exact Nat.le_refl _))
    simpa using heap_alloc_new w (.cells z.cells t)
/-- a cell of a typed block is stored into -/
theorem wl_storeT {x y : Operand} {t o i : Nat} {v : Value} (hS : Sat w As) (hx : look L x = some (ptrV b o)) (hy : look L y = some v) (hs : szOf P t = some 1) (h1 : v.oneCell' = true) (hi : As[i]? = some (tblkT T b cs)) (ho : o < cs.length)
    (hk : ∀ w', Sat w' (As.set i (tblkT T b (cs.set o v))) → wl P n ops Q rest L w') : wl P n ops Q (⟨none, .store t x y, ty, pos, aft, none⟩ :: rest) L w := by
  have hb := hS.tblk i hi
  have hc := hS.tcell i hi (o := o) (List.getElem?_eq_getElem ho)
  have hf : w.frozen? ⟨b, o, none⟩ = false := Lib.frozen_of_heap hb o
  have hcs : v.cells = #[v] := by cases v <;> first | rfl | cases h1
  refine wl_does rfl rfl (R := fun _ w' => w' = w.setCell ⟨b, o, none⟩ v) (fun a ha => ⟨undef, _, .inr ⟨?_, rfl⟩, rfl⟩) (fun _ w' e => ?_)
  · have hst : (store ⟨b, o, none⟩ v).run P w = .ok () (w.setCell ⟨b, o, none⟩ v) := by
      rw [run_store P w _ v _ h1, hc]; simp [hf]
    have e0 : (⟨b, o, none⟩ : Addr).add 0 = ⟨b, o, none⟩ := by simp [Addr.add]
    simp [execOp, ha.eval hx, ha.eval hy, Instr.storeAt, Instr.sureAddr, storeVar, hcs, run_sizeOf hs, storeCells, e0, hst]
  · subst e
    refine hk _ (hS.step i hi fun F ⟨e1, _⟩ => ⟨F, ⟨e1, ?_⟩, fun k hk => .inl hk, ((Only.refl [b] w).setCell (.inl (by simp)) v).agree (fun x hx => .inl (by simp only [List.mem_singleton] at hx; subst hx; rw [e1]))⟩)
    simp [World.setCell, Array.getElem?_modify, hb]
/-- unsafe.SliceData of a buffer -/
theorem wl_sliceData {ao : Option Addr} {m cap : Nat} {ts : Array TypeId} {x : Operand} (hx : look L x = some (.slice ao m cap)) (h0 : ao = none ∨ cap ≠ 0) (hd : Nat.blt d n = true) (hk : wl P n ops Q rest ((d, .pointer ao) :: L) w) : wl P n ops Q (⟨some d, .call ⟨.builtin .unsafeSliceData, #[x], ts⟩, ty, pos, aft, none⟩ :: rest) L w := by
  refine wl_does rfl hd (R := fun v w' => v = .pointer ao ∧ w' = w) (fun a ha => ⟨_, _, .inl ?_, rfl, rfl⟩) (by rintro _ _ ⟨rfl, rfl⟩; exact hk)
  have hr : (Builtin.unsafeSliceData_ ts ty #[.slice ao m cap]).run P w = .ok (.pointer ao) w := by
    cases ao with
    | none => exact Lib.run_unsafeSliceData_nil w ts ty m cap
    | some q => exact Lib.run_unsafeSliceData_row w ts ty q m cap (by rcases h0 with h0 | h0; cases h0; exact h0)
  simp [execOp, ha.eval hx, resolve, invoke, builtin, hr]
/-- unsafe.String of a buffer: the buffer is given up -/
theorem wl_unsafeString {ao : Option Addr} {cap pt it : Nat} {bs : List UInt8} {x y : Operand} (i : Nat) (hS : Sat w As) (hi : As[i]? = some (bufT e (.slice ao bs.length cap) bs)) (hx : look L x = some (.pointer ao)) (hy : look L y = some (.int .i64 (bs.length : Int))) (hp : P.underlying pt = some (.pointer e)) (hc : P.cellsOf e = 1) (hlen : bs.length ≤ 9223372036854775807) (hd : Nat.blt d n = true)
    (hk : ∀ w', Sat w' (As.eraseIdx i) → wl P n ops Q rest ((d, strV bs) :: L) w') : wl P n ops Q (⟨some d, .call ⟨.builtin .unsafeString, #[x, y], #[pt, it]⟩, ty, pos, aft, none⟩ :: rest) L w := by
  obtain ⟨hown, hnil⟩ := hS.buf i hi
  have hg : ∃ w', (Builtin.unsafeString_ #[pt, it] ty #[.pointer ao, .int .i64 bs.length]).run P w = .ok (strV bs) w' ∧ Sat w' (As.eraseIdx i) := by
    by_cases h0 : bs = []
    · subst h0
      have hv := hnil rfl
      simp only [Value.slice.injEq, List.length_nil, true_and] at hv
      obtain ⟨rfl, _⟩ := hv
      exact ⟨w, Lib.run_unsafeString_none w pt it ty none, hS.drop i hi⟩
    · obtain ⟨_, ⟨hv, h1⟩ | ⟨g, cap', cur, hv, _, hgb, h1, _, h2, h3⟩⟩ := hown
      · exact absurd (List.eq_nil_of_length_eq_zero h1) h0
      · simp only [Value.slice.injEq, true_and] at hv
        obtain ⟨rfl, rfl⟩ := hv
        refine ⟨w.freeze ⟨g, 0, none⟩ bs.length, Lib.run_unsafeString_row w pt it ty e hp hc g cur.size (by simp [World.shape?, hgb]) bs h0 (by omega) hlen ?_, ?_⟩
        · intro j c hj
          rw [addr_add]
          simp only [Nat.zero_add]
          rw [Lib.cell_of_heap hgb]
          have hj' := (List.getElem?_eq_some_iff.1 hj).1
          have : (byC.cells bs)[j]? = some (.int .u8 (c.toNat : Int)) := by
            have := RowC.cells_at (C := byC) (l := bs) (j := j) hj
            have h3 := congrArg (fun q => q[0]?) this
            simpa [byC, List.getElem?_take, List.getElem?_drop] using h3
          rw [← h3, List.getElem?_take] at this
          split at this
          · simpa using this
          · cases this
        · have hp1 := hS.pull i hi
          obtain ⟨F, F1, F2, rfl, dj, ⟨e1, _⟩, h2'⟩ := hp1
          refine ⟨F2, (starL _).fr (F := F2) ?_ h2'⟩
          have hb := Lib.below_freeze (B := 0) (Below.refl 0 w) (p := ⟨g, 0, none⟩) (Nat.zero_le _) bs.length
          refine ⟨hb.os, hb.tape, hb.output, fun k hk' => ?_⟩
          have hne : k ≠ g := by
            rintro rfl
            exact dj k (by rw [e1]; rfl) hk'
          unfold World.freeze
          split
          · rfl
          · simp only [Array.getElem?_modify]
            rw [if_neg (fun q => hne q.symm)]
  obtain ⟨w', h1, h2⟩ := hg
  refine wl_does rfl hd (R := fun v u => v = strV bs ∧ u = w') (fun a ha => ⟨_, _, .inl ?_, rfl, rfl⟩) (by rintro _ _ ⟨rfl, rfl⟩; exact hk _ h2)
  simp [execOp, ha.eval hx, ha.eval hy, resolve, invoke, builtin, h1]
/-- a pointer to an unsafe one, and back -/
theorem wl_toUnsafe {src dst t o : Nat} {x : Operand} {j : TypeInfo} {S : Nat × Nat} (hx : look L x = some (ptrV b o)) (hs : P.underlying src = some (.pointer t)) (hd' : P.underlying dst = some .unsafePointer) (ht : P.info? t = some j) (hj : j.size ≠ 0) (hsh : w.shape? b = some S) (ho : o < S.2) (hd : Nat.blt d n = true) (hk : wl P n ops Q rest ((d, ptrV b o) :: L) w) : wl P n ops Q (⟨some d, .convert src dst x, ty, pos, aft, none⟩ :: rest) L w :=
  wl_val hd (fun ρ hρ => by
    have := Lib.run_to_unsafe (P := P) (w := w) (e := S.1) (cells := S.2) (⟨b, o, none⟩ : Addr) hs hd' ht hj hsh ho
    simp [execOp, hρ _ _ hx, ptrV, this]) hk
theorem wl_fromUnsafe {src dst u o : Nat} {x : Operand} {j : TypeInfo} {S : Nat × Nat} (hx : look L x = some (ptrV b o)) (hs : P.underlying src = some .unsafePointer) (hd' : P.underlying dst = some (.pointer u)) (hu : P.info? u = some j) (hsh : w.shape? b = some S) (hl : liesAt P P.depth S.1 (S.2 / P.cellsOf S.1) o u 1 = true) (hd : Nat.blt d n = true) (hk : wl P n ops Q rest ((d, ptrV b o) :: L) w) : wl P n ops Q (⟨some d, .convert src dst x, ty, pos, aft, none⟩ :: rest) L w :=
  wl_val hd (fun ρ hρ => by
    have := Lib.run_from_unsafe (P := P) (w := w) (e := S.1) (cells := S.2) (⟨b, o, none⟩ : Addr) hs hd' hu hsh hl
    simp [execOp, hρ _ _ hx, ptrV, this]) hk
/-- p != p -/
theorem wl_neqPtrSame {x y : Operand} {t t2 u : TypeId} {q : Addr} {j : TypeInfo} (hu : P.underlying t = some (.pointer u)) (hj : P.info? u = some j) (hx : look L x = some (.pointer (some q))) (hy : look L y = some (.pointer (some q))) (hd : Nat.blt d n = true) (hk : wl P n ops Q rest ((d, .bool false) :: L) w) : wl P n ops Q (⟨some d, .binOp .neq t x y t2, ty, pos, aft, none⟩ :: rest) L w :=
  wl_val hd (fun ρ hρ => by
    have h : (Op.equal t (.pointer (some q)) (.pointer (some q))).run P w = .ok true w := by
      unfold Op.equal Op.maxDepth Op.equalIn
      simp [run_underlying hu, sizeOf, typeInfo, hj, run_sameAddr_same]
    simp [execOp, hρ _ _ hx, hρ _ _ hy, eqGuard, binOp, h]) hk
/-- a function without a body that gives its argument back -/
theorem wl_extSame {f : Nat} {fn : Func} {x : Operand} {ts : Array TypeId} {v : Value} (hf : P.funcs[f]? = some fn) (hname : (fn.name == "runtime.NumGoroutine") = false) (hb : fn.body.isNone = true) (hn : Extern.findNext fn = none) (he : Extern.find fn = some Extern.AbiNoEscape.same)
    (hx : look L x = some v) (hd : Nat.blt d n = true) (hk : wl P n ops Q rest ((d, v) :: L) w) : wl P n ops Q (⟨some d, .call ⟨.value (.func f), #[x], ts⟩, ty, pos, aft, none⟩ :: rest) L w := by
  refine wl_does rfl hd (R := fun u w' => u = v ∧ w' = w) (fun a ha => ⟨_, _, .inl ?_, rfl, rfl⟩) (by rintro _ _ ⟨rfl, rfl⟩; exact hk)
  have hr : (Extern.AbiNoEscape.same #[v]).run P w = .ok v w := rfl
  have hc := run_callFunc_extern hf hname hb hn he #[v] w
  rw [hr] at hc
  simp only [execOp, resolve, Act.eval, Deferred.ofValue, invoke]
  have hxe := ha.eval hx
  simp
  rw [hxe, hc]; rfl
end
end Go.Proofs.YtcbdclhoekokpaaGreatDoor.M
/- Appending a string's bytes to a builder's buffer. Conditions: each lemma's own hypotheses. -/
namespace Go.Proofs.YtcbdclhoekokpaaGreatDoor
open Go.RowKit M
section
variable {P : Program} {n : Nat} {ops : Array Oper} {Q : Exit → Act → World → Prop} {rest : List Oper} {L : Env} {w : World} {d : Nat} {ty : TypeId} {pos : String} {aft : Array Edge} {As : List Th} {T e b : Nat} {cs : List Value}
theorem strCells_eq (l : List UInt8) : Lib.strCells ⟨l.toArray⟩ = byC.cells l := by
  rw [byC_cells]
  simp [Lib.strCells, bytesV]
theorem wl_bufAppS {t t2 : TypeId} {s x : Operand} {v : Value} {bs l2 : List UInt8} (i : Nat) (hS : Sat w As) (hi : As[i]? = some (bufT e v bs)) (hs : M.look L s = some v) (hx : M.look L x = some (strV l2)) (hu : P.underlying t = some (.slice e)) (hu2 : P.underlying t2 = some .string)
    (hif : (P.info? e).map (fun i => (i.zero, i.size, i.bytes)) = some (some (.int .u8 0), 1, 1)) (hm : bs.length + l2.length ≤ 140737488355328) (hd : Nat.blt d n = true)
    (hk : ∀ v' w', Sat w' (As.set i (bufT e v' (bs ++ l2))) → wl P n ops Q rest ((d, v') :: L) w') : wl P n ops Q (⟨some d, .call ⟨.builtin .append, #[s, x], #[t, t2]⟩, ty, pos, aft, none⟩ :: rest) L w := by
  obtain ⟨hown, hnil⟩ := hS.buf i hi
  obtain ⟨foot, hO, hfoot⟩ := own_of_row hown
  obtain ⟨inf, hi1, hi2, hi3, hi4⟩ := info_parts hif
  have hsz : (⟨l2.toArray⟩ : ByteArray).size = l2.length := by simp [ByteArray.size]
  refine wl_does rfl hd (R := fun v w' => Sat w' (As.set i (bufT e v (bs ++ l2)))) (fun a ha => ?_) (fun v w' hR => hk v w' hR)
  obtain ⟨v1, w1, hrun, foot', o1, o2, o3, _⟩ := does_append (P := P) (o := ⟨some d, .call ⟨.builtin .append, #[s, x], #[t, t2]⟩, ty, pos, aft, none⟩) (a := a) t t2 s x rfl (ha.eval hs) (ha.eval hx) hO hu hu2 (by intro k hk; cases hk) hif rfl (by decide) (m := l2.length) (news := byC.cells l2)
    (fun w1 => by simp [strV, Builtin.lenOf, hsz]) (fun w1 _ => by have := Lib.run_firstCells_string (P := P) w1 1 ⟨l2.toArray⟩; rw [hsz, strCells_eq] at this; exact this) (byC.cells_len l2) (allOne_spec (byC.cells_one l2)) (by omega) (by omega)
  obtain ⟨v2, w2, hr2, hown2, _, hiff⟩ := Lib.run_append_own_string (P := P) w 0 t t2 ty e inf hu hu2 hi1 hi2 hi3 hi4 v bs.length (byC.cells bs) hown ⟨l2.toArray⟩ (by rw [hsz]; unfold maxLen; omega) (by rw [hsz]; omega) (Nat.zero_le _)
  rw [hsz] at hown2 hiff
  have hex : (execOp a.eval ⟨some d, .call ⟨.builtin .append, #[s, x], #[t, t2]⟩, ty, pos, aft, none⟩).run P w = .ok (.value v2) w2 := by
    have hr3 : (Builtin.append_ #[t, t2] ty #[v, strV l2]).run P w = .ok v2 w2 := hr2
    simp [execOp, ha.eval hs, ha.eval hx, resolve, invoke, builtin, hr3]
  have heq : v1 = v2 ∧ w1 = w2 := by
    rcases hrun with h | ⟨h, _⟩
    · rw [hex] at h; cases h; exact ⟨rfl, rfl⟩
    · rw [hex] at h; cases h
  obtain ⟨rfl, rfl⟩ := heq
  refine ⟨v1, w1, .inl hex, ?_⟩
  have hfoot' : ∀ k, v1.ownBlock = some k → k ∈ foot' := by
    intro k hk'
    obtain ⟨_, ⟨e1, _, _⟩ | ⟨b1, c1, s1, e1, _, _, _, rfl⟩⟩ := o1
    · rw [e1] at hk'; cases hk'
    · rw [e1] at hk'; simp [Value.ownBlock] at hk'; simp [hk']
  refine hS.step i hi fun F ⟨eF, _⟩ => ⟨fun k => v1.ownBlock = some k, ⟨rfl, ?_, fun q => ?_⟩, fun k hk' => ?_, o2.agree fun k hk' => ?_⟩
  · rw [List.length_append, ← RowC.cells_app, ← strCells_eq l2]; exact hown2
  · obtain ⟨q1, q2⟩ := List.append_eq_nil_iff.1 q
    exact hiff.2 ⟨hnil q1, by rw [q2]; rfl⟩
  · rcases o3 k (hfoot' k hk') with q | q
    · exact .inl (by rw [eF]; exact (hfoot k).1 q)
    · exact .inr q
  · exact .inl (by rw [eF]; exact (hfoot k).1 hk')
end
end Go.Proofs.YtcbdclhoekokpaaGreatDoor
