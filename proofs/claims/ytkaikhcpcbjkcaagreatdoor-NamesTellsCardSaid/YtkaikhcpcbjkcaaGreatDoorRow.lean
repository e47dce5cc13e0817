/- Rows of elements: owned slices and slices that are read, by a codec of the element. Conditions: each rule's own hypotheses. -/
import Derived.Test.YtkaikhcpcbjkcaaGreatDoorMap
import Derived.Sort.EncStr
import Derived.Sort.Grow
import Derived.Lib.AtoiAll
import Derived.Lib.ItoaLen
import Derived.Lib.IndexLaws
namespace Go.Proofs.YtkaikhcpcbjkcaaGreatDoor.M
open Go.RowKit
/-- how an element lies in cells -/
structure RowC (α : Type) where
  enc : α → List Value
  size : Nat
  pos : 0 < size
  len : ∀ a, (enc a).length = size
  one : ∀ a, allOne (enc a) = true
def RowC.cells {α : Type} (C : RowC α) (l : List α) : List Value := l.flatMap C.enc
section
variable {α : Type} {C : RowC α} {l l2 : List α} {a : α} {j : Nat}
theorem RowC.cells_len (C : RowC α) (l : List α) : (C.cells l).length = l.length * C.size := by
  induction l with
  | nil => simp [RowC.cells]
  | cons a l ih => simp only [RowC.cells, List.flatMap_cons, List.length_append, C.len, List.length_cons] at ih ⊢; rw [ih, Nat.add_mul]; omega
theorem RowC.cells_one (C : RowC α) (l : List α) : allOne (C.cells l) = true := allOne_mk (by
  intro v hv
  obtain ⟨a, _, h⟩ := List.mem_flatMap.1 hv
  exact allOne_spec (C.one a) v h)
theorem RowC.cells_app (C : RowC α) (l l2 : List α) : C.cells l ++ C.cells l2 = C.cells (l ++ l2) := by simp [RowC.cells]
theorem RowC.cells_at : ∀ {l : List α} {j : Nat}, l[j]? = some a → ((C.cells l).drop (j * C.size)).take C.size = C.enc a
  | [], j, h => by simp at h
  | b :: l, 0, h => by
    simp at h; subst h
    rw [Nat.zero_mul, List.drop_zero]
    show (C.enc b ++ C.cells l).take C.size = _
    rw [← C.len b, List.take_left]
  | b :: l, j + 1, h => by
    have e : (j + 1) * C.size = (C.enc b).length + j * C.size := by rw [C.len, Nat.add_mul]; omega
    show ((C.enc b ++ C.cells l).drop _).take _ = _
    rw [e, ← List.drop_drop, List.drop_left]
    exact RowC.cells_at (by simpa using h)
theorem RowC.cells_get {o : Nat} {u : Value} (h : l[j]? = some a) (ho : (C.enc a)[o]? = some u) : (C.cells l)[j * C.size + o]? = some u := by
  have h1 := RowC.cells_at (C := C) h
  rw [← h1, List.getElem?_take] at ho
  split at ho
  · rw [List.getElem?_drop] at ho; exact ho
  · cases ho
end
abbrev rowT {α : Type} (C : RowC α) (v : Value) (l : List α) : Th := ownT v l.length C.size (C.cells l)
theorem Sat.row_cast {α : Type} {C : RowC α} {w : World} {As : List Th} {v : Value} {m size : Nat} {xs : List Value} {l : List α} (h : Sat w (ownT v m size xs :: As)) (hm : m = l.length) (hs : size = C.size) (hx : xs = C.cells l) : Sat w (rowT C v l :: As) := by subst hm hs hx; exact h
def maskOf (n : Nat) (is : List Nat) : List Bool := (List.range n).map (is.contains ·)
/-- some of the things, in this order; the others are dropped -/
theorem Sat.pick {w : World} {As : List Th} (h : Sat w As) (is : List Nat) (hm : maskOk As.length is (maskOf As.length is) = true) : Sat w (pickA As is) := by
  have h1 := h.split is _ hm
  have h2 := h1.drop (pickA As is).length (A := starL (selF (maskOf As.length is) As)) (by simp)
  rw [List.eraseIdx_append_of_length_le (Nat.le_refl _), Nat.sub_self] at h2
  simpa using h2
/-- an empty row -/
theorem Sat.row_nil {α : Type} (C : RowC α) {w : World} {As : List Th} (h : Sat w As) : Sat w (rowT C (.slice none 0 0) [] :: As) :=
  h.new (Only.refl [] w) (A := ownT (.slice none 0 0) 0 C.size []) (F' := fun k => k ∈ ([] : List Nat)) ⟨[], rfl, Own.nil w C.size⟩ (by simp)
/-- a slice that is read -/
def RdL {α : Type} (C : RowC α) (v : Value) (l : List α) (w : World) : Prop := ∃ ao cap, v = .slice ao l.length cap ∧ l.length ≤ 9223372036854775807 ∧ ∀ (i : Nat) (a : α), l[i]? = some a → ∃ b off, ao = some ⟨b, off, none⟩ ∧ ∀ (j : Nat) (u : Value), (C.enc a)[j]? = some u → w.cell? ⟨b, off + i * C.size + j, none⟩ = some u
section
variable {α : Type} {C : RowC α} {l : List α} {w : World} {v : Value}
theorem RdL.shape (h : RdL C v l w) : ∃ ao cap, v = .slice ao l.length cap ∧ l.length ≤ 9223372036854775807 := by obtain ⟨ao, cap, h1, h2, _⟩ := h; exact ⟨ao, cap, h1, h2⟩
theorem RdL.get {ao : Option Addr} {n cap i : Nat} {a : α} (h : RdL C (.slice ao n cap) l w) (ha : l[i]? = some a) : ∃ b off, ao = some ⟨b, off, none⟩ ∧ ∀ (j : Nat) (u : Value), (C.enc a)[j]? = some u → w.cell? ⟨b, off + i * C.size + j, none⟩ = some u := by
  obtain ⟨ao', cap', h1, _, h3⟩ := h
  cases h1
  exact h3 i a ha
theorem RdL.nil (C : RowC α) (w : World) : RdL C (.slice none 0 0) [] w := ⟨none, 0, rfl, by simp, by simp⟩
theorem RdL.lenOf {P : Program} (h : RdL C v l w) : ∀ w1, (Builtin.lenOf v).run P w1 = .ok l.length w1 := by
  obtain ⟨ao, cap, rfl, _⟩ := h.shape
  exact lenOf_slice _ _ _
theorem RdL.first {P : Program} (h : RdL C v l w) : ∀ w1 : World, w1.heap = w.heap → (Builtin.firstCells C.size l.length v).run P w1 = .ok (C.cells l).toArray w1 := by
  obtain ⟨ao, cap, rfl, _⟩ := h.shape
  intro w1 hw
  cases hl : l with
  | nil => cases ao <;> simp [Builtin.firstCells, RowC.cells, loadCells, loadCellsFrom]
  | cons x l' =>
    obtain ⟨b, off, rfl, _⟩ := h.get (i := 0) (a := x) (by rw [hl]; rfl)
    rw [← hl]
    simp only [Builtin.firstCells]
    have := run_loadCells_list (P := P) w1 ⟨b, off, none⟩ (C.cells l) (fun j v hv => by
      rw [addr_add]
      have hjl := (List.getElem?_eq_some_iff.1 hv).1
      rw [C.cells_len] at hjl
      have hq : j / C.size < l.length := Nat.div_lt_of_lt_mul (by rw [Nat.mul_comm]; exact hjl)
      have ha : l[j / C.size]? = some l[j / C.size] := List.getElem?_eq_getElem hq
      obtain ⟨b2, o2, e, hc⟩ := h.get ha
      cases e
      have hr := Nat.mod_lt j C.pos
      have hm : j / C.size * C.size + j % C.size = j := by have := Nat.div_add_mod j C.size; rw [Nat.mul_comm]; exact this
      have hu : (C.enc l[j / C.size])[j % C.size]? = some v := by
        have h1 := RowC.cells_at (C := C) ha
        rw [← h1, List.getElem?_take, if_pos hr, List.getElem?_drop, hm]; exact hv
      have := hc _ _ hu
      rw [World.cell?_of_block (w := w) (by rw [hw])]
      rw [← this, Nat.add_assoc, hm])
    rw [C.cells_len] at this
    exact this
theorem Sat.rd {As : List Th} (hS : Sat w As) (i : Nat) (hi : As[i]? = some (rowT C v l)) (hl : l.length ≤ 9223372036854775807) : RdL C v l w := by
  obtain ⟨ao, cap, rfl, _⟩ := hS.own_shape i hi
  refine ⟨ao, cap, rfl, hl, fun k a ha => ?_⟩
  obtain ⟨b, cap', hv, _⟩ := hS.own_at i hi (by have := (List.getElem?_eq_some_iff.1 ha).1; omega)
  cases hv
  exact ⟨b, 0, rfl, fun j u hu => by rw [Nat.zero_add]; exact hS.ocell i hi rfl (RowC.cells_get ha hu)⟩
theorem ent_row {v : Value} {l : List α} (hl : l.length ≤ 9223372036854775807) : Ent (rowT C v l) (RdL C v l) := fun {w G} h =>
  Sat.rd (As := [rowT C v l]) (w := w) ⟨G, G, fun _ => False, by simp, fun _ _ h => h, h, rfl⟩ 0 rfl hl
end
section
variable {P : Program} {n : Nat} {ops : Array Oper} {Q : Exit → Act → World → Prop} {rest : List Oper} {L : Env} {w : World} {d : Nat} {ty : TypeId} {pos : String} {aft : Array Edge}
variable {α : Type} {C : RowC α} {l : List α} {v : Value} {a : α} {As : List Th}
/-- &x[j] -/
theorem wl_rowIdx (C : RowC α) (i j : Nat) (hS : Sat w As) {x y : Operand} {t : Nat} {k : IntKind} {q : Int} (hi : As[i]? = some (rowT C v l)) (hx : look L x = some v) (hy : look L y = some (.int k q)) (hq : q = (j : Int)) (ha : l[j]? = some a) (hs : elemSz P t = some C.size) (hd : Nat.blt d n = true)
    (hk : ∀ b cap, v = .slice (some ⟨b, 0, none⟩) l.length cap → wl P n ops Q rest ((d, ptrV b (j * C.size)) :: L) w) : wl P n ops Q (⟨some d, .indexAddr t x y, ty, pos, aft, none⟩ :: rest) L w :=
  wl_indexO i j hS hi hx hy hq (List.getElem?_eq_some_iff.1 ha).1 hs hd hk
/-- a cell of an element of an owned row -/
theorem wl_rowLoad (i j o : Nat) (hS : Sat w As) {x : Operand} {t b cap m q : Nat} {u : Value} (hi : As[i]? = some (rowT C v l)) (hv : v = .slice (some ⟨b, 0, none⟩) m cap) (hx : look L x = some (ptrV b q)) (hq : q = j * C.size + o) (ha : l[j]? = some a) (hg : aggB P t = some false) (hu : (C.enc a)[o]? = some u) (hd : Nat.blt d n = true)
    (hk : wl P n ops Q rest ((d, u) :: L) w) : wl P n ops Q (⟨some d, .load t x, ty, pos, aft, none⟩ :: rest) L w := by
  subst hq
  exact wl_load hx hg (hS.ocell i hi hv (RowC.cells_get ha hu)) hd hk
/-- the same, the row's value written out -/
theorem ev_rowLoad0 (C : RowC α) (i j o : Nat) (hS : Sat w As) {x : Operand} {t b cap m : Nat} {u : Value} {a : α} {l : List α} (hi : As[i]? = some (rowT C (.slice (some ⟨b, 0, none⟩) m cap) l)) (ha : l[j]? = some a) (hg : aggB P t = some false) (hx : look L x = some (ptrV b (0 + j * C.size + o))) (hu : (C.enc a)[o]? = some u) : Ev P L w ⟨some d, .load t x, ty, pos, aft, none⟩ u := by
  refine ev_load hx hg ?_
  rw [Nat.zero_add]
  exact hS.ocell i hi rfl (RowC.cells_get ha hu)
/-- []T{..} -/
theorem wl_rowBuild (C : RowC α) (l : List α) (hS : Sat w As) {t e len : Nat} {z : Value} {parts : List (Nat × Operand)} {vs : List Value} (hx : looks L (parts.map (·.2)) = some vs) (hu : P.underlying t = some (.slice e)) (hi : (P.info? e).map (fun i => (i.zero, i.size)) = some (some z, C.size)) (hlen : Nat.ble (len * C.size) 1000 = true) (hzs : z.cells.size = C.size)
    (hok : fillOk (len * C.size) ((parts.map (·.1)).map fun i => (i * C.size, C.size)) vs = true) (hl : l.length = len) (he : fillL (List.replicate len z.cells.toList).flatten ((parts.map (·.1)).map fun i => (i * C.size, C.size)) vs = C.cells l) (hd : Nat.blt d n = true)
    (hk : ∀ b w', Sat w' (rowT C (.slice (some ⟨b, 0, none⟩) len len) l :: As) → wl P n ops Q rest ((d, .slice (some ⟨b, 0, none⟩) len len) :: L) w') : wl P n ops Q (⟨some d, .buildSlice t len parts.toArray, ty, pos, aft, none⟩ :: rest) L w := by
  refine wl_buildSlice hS hx hu hi hlen hzs hok hd ?_
  intro b w' h
  exact hk b w' (h.row_cast hl.symm rfl he)
/-- append(x, y...), x an owned row, y read -/
theorem wl_rowApp (C : RowC α) (i : Nat) {l2 : List α} (hS : Sat w As) {t t2 e bytes : Nat} {s x : Operand} {z xv : Value} {d2 : TypeDesc} (hi : As[i]? = some (rowT C v l)) (hs : look L s = some v) (hx : look L x = some xv) (hr : RdL C xv l2 w) (hu : P.underlying t = some (.slice e)) (hu2 : P.underlying t2 = some d2) (hd2 : ∀ k, d2 ≠ .int k)
    (hif : (P.info? e).map (fun i => (i.zero, i.size, i.bytes)) = some (some z, C.size, bytes)) (hz : z.cells.size = C.size) (hb : (l.length + l2.length) * bytes ≤ 140737488355328) (hd : Nat.blt d n = true) (hm : l.length + l2.length ≤ 9223372036854775807)
    (hk : ∀ v' w', Sat w' (As.set i (rowT C v' (l ++ l2))) → wl P n ops Q rest ((d, v') :: L) w') : wl P n ops Q (⟨some d, .call ⟨.builtin .append, #[s, x], #[t, t2]⟩, ty, pos, aft, none⟩ :: rest) L w := by
  refine wl_append i hS hi hs hx hu hu2 hd2 hif hz C.pos hr.lenOf hr.first (C.cells_len l2) (C.cells_one l2) hb hm hd ?_
  intro v' w' h
  refine hk v' w' ?_
  show Sat w' (As.set i (ownT v' (l ++ l2).length C.size (C.cells (l ++ l2))))
  rw [List.length_append, ← C.cells_app]
  exact h
end
/-! ### results that lie in cells -/
def resRun (tmps : Array Value) : ResultVar → Sem Value
  | .tmp t => pure (tmps.getD t undef)
  | .cell a t => do loadVar t (← asAddr (tmps.getD a undef))
def resOk (P : Program) (n : Nat) (L : Env) (w : World) (r : ResultVar) (v : Value) : Prop := ∀ a, Fr n L a → (resRun a.tmps r).run P w = .ok v w
section
variable {P : Program} {n : Nat} {L : Env} {w : World} {Q : Exit → Act → World → Prop}
theorem resT {t : Nat} {v : Value} (h : eget L t = some v) : resOk P n L w (.tmp t) v := fun a ha => by
  have := ha.get t v h; simp [resRun, this]
theorem resC {x t b o : Nat} {v : Value} (h : eget L x = some (ptrV b o)) (ha : aggB P t = some false) (hc : w.cell? ⟨b, o, none⟩ = some v) : resOk P n L w (.cell x t) v := fun a hf => by
  have := hf.get x _ h; simp [resRun, this, asAddr, loadVar, aggB_false ha, load, Sem.run, hc]
theorem resCA {x t b o m : Nat} {cs vs : List Value} (h : eget L x = some (ptrV b o)) (ha : aggB P t = some true) (hs : szOf P t = some m) (hb : Blk w b cs) (hm : o + m ≤ cs.length) (hvs : (cs.drop o).take m = vs) : resOk P n L w (.cell x t) (.agg vs.toArray) := fun a hf => by
  subst hvs
  have := hf.get x _ h; simp [resRun, this, asAddr, loadVar, aggB_true ha, run_sizeOf hs, run_loadCells_blk hb o m hm]
theorem results_eq (fn : Func) (tmps : Array Value) : results fn tmps = (do let vs ← fn.results.mapM (resRun tmps); pure (if h : vs.size = 1 then vs[0] else .tuple vs)) := by
  have e : (resRun tmps) = (fun | .tmp t => pure (tmps.getD t undef) | .cell a t => do loadVar t (← asAddr (tmps.getD a undef)) : ResultVar → Sem Value) := by
    funext r; cases r <;> rfl
  rw [e]; rfl
theorem finR2 {fn : Func} {R : Ending → World → Prop} {r r2 : ResultVar} {v v2 : Value} {e : Exit} (he : e = .normal ∨ e = .ret) (hf : fn.results = #[r, r2]) (hv : resOk P n L w r v) (hv2 : resOk P n L w r2 v2) (h : R (.returned (.tuple #[v, v2])) w) : qs n (bodyPost P fn R) e L w :=
  fin_of he (fun a ha => by rw [results_eq, hf]; simp [hv a ha, hv2 a ha]) h
theorem finR3 {fn : Func} {R : Ending → World → Prop} {r r2 r3 : ResultVar} {v v2 v3 : Value} {e : Exit} (he : e = .normal ∨ e = .ret) (hf : fn.results = #[r, r2, r3]) (hv : resOk P n L w r v) (hv2 : resOk P n L w r2 v2) (hv3 : resOk P n L w r3 v3) (h : R (.returned (.tuple #[v, v2, v3])) w) : qs n (bodyPost P fn R) e L w :=
  fin_of he (fun a ha => by rw [results_eq, hf]; simp [hv a ha, hv2 a ha, hv3 a ha]) h
end
/-! ### rows of bytes -/
def byC : RowC UInt8 := ⟨fun c => [.int .u8 (c.toNat : Int)], 1, by decide, fun _ => rfl, fun _ => rfl⟩
theorem byC_cells (l : List UInt8) : byC.cells l = bytesV l := by
  induction l with
  | nil => rfl
  | cons c l ih => show [_] ++ byC.cells l = _; rw [ih]; rfl
section
variable {P : Program} {n : Nat} {ops : Array Oper} {Q : Exit → Act → World → Prop} {rest : List Oper} {L : Env} {w : World} {d : Nat} {ty : TypeId} {pos : String} {aft : Array Edge} {As : List Th}
/-- string(x), x a row of bytes -/
theorem ev_rowStr (i : Nat) (hS : Sat w As) {x : Operand} {sT dT e : Nat} {v : Value} {l : List UInt8} (hi : As[i]? = some (rowT byC v l)) (hx : look L x = some v) (hs : P.underlying sT = some (.slice e)) (he : P.underlying e = some (.int .u8)) (hd : P.underlying dT = some .string) : Ev P L w ⟨some d, .convert sT dT x, ty, pos, aft, none⟩ (strV l) := fun ρ hρ => by
  obtain ⟨foot, hown⟩ := hS.own i hi
  obtain ⟨hl, ⟨rfl, h0, rfl⟩ | ⟨b, cap, sp, rfl, hc, hb, hlen, rfl⟩⟩ := hown
  · have hl0 : l = [] := List.eq_nil_of_length_eq_zero h0
    subst hl0
    simp [execOp, hρ _ _ hx, run_convert_bytes_string w sT dT e none 0 0 hs he hd, Conv.bytesToString]
    rfl
  · refine ev_strB i hS l hi rfl hx hs he hd ?_ rfl ρ hρ
    rw [List.drop_zero, byC_cells, List.take_of_length_le (by rw [bytesV_length]; exact Nat.le_refl _)]
theorem wl_rowStr (i : Nat) (hS : Sat w As) {x : Operand} {sT dT e : Nat} {v : Value} {l : List UInt8} (hi : As[i]? = some (rowT byC v l)) (hx : look L x = some v) (hs : P.underlying sT = some (.slice e)) (he : P.underlying e = some (.int .u8)) (hd : P.underlying dT = some .string) (hdd : Nat.blt d n = true) (hk : wl P n ops Q rest ((d, strV l) :: L) w) : wl P n ops Q (⟨some d, .convert sT dT x, ty, pos, aft, none⟩ :: rest) L w :=
  wl_val hdd (ev_rowStr i hS hi hx hs he hd) hk
end
theorem Ev.gd {P : Program} {L : Env} {w : World} {d : Option Nat} {op : Op} {ty : TypeId} {pos : String} {aft : Array Edge} {gd : Option (Nat × Bool)} {v : Value} (h : Ev P L w ⟨d, op, ty, pos, aft, none⟩ v) : Ev P L w ⟨d, op, ty, pos, aft, gd⟩ v := h
/-- a slice that is read, whose elements say more of the memory -/
def RdX {α : Type} (enc : α → List Value) (size : Nat) (φ : α → World → Prop) (v : Value) (l : List α) (w : World) : Prop := ∃ ao cap, v = .slice ao l.length cap ∧ l.length ≤ 9223372036854775807 ∧ ∀ (i : Nat) (a : α), l[i]? = some a →
  (∃ b off, ao = some ⟨b, off, none⟩ ∧ ∀ (j : Nat) (u : Value), (enc a)[j]? = some u → w.cell? ⟨b, off + i * size + j, none⟩ = some u) ∧ φ a w
section
variable {α : Type} {enc : α → List Value} {size : Nat} {φ : α → World → Prop} {l : List α} {w : World} {v : Value}
theorem RdX.shape (h : RdX enc size φ v l w) : ∃ ao cap, v = .slice ao l.length cap ∧ l.length ≤ 9223372036854775807 := by obtain ⟨ao, cap, h1, h2, _⟩ := h; exact ⟨ao, cap, h1, h2⟩
theorem RdX.get {ao : Option Addr} {n cap i : Nat} {a : α} (h : RdX enc size φ (.slice ao n cap) l w) (ha : l[i]? = some a) :
    (∃ b off, ao = some ⟨b, off, none⟩ ∧ ∀ (j : Nat) (u : Value), (enc a)[j]? = some u → w.cell? ⟨b, off + i * size + j, none⟩ = some u) ∧ φ a w := by
  obtain ⟨ao', cap', h1, _, h3⟩ := h
  cases h1
  exact h3 i a ha
theorem RdX.cells {b off n cap i : Nat} {a : α} (h : RdX enc size φ (.slice (some ⟨b, off, none⟩) n cap) l w) (ha : l[i]? = some a) : ∀ (j : Nat) (u : Value), (enc a)[j]? = some u → w.cell? ⟨b, off + i * size + j, none⟩ = some u := by
  obtain ⟨⟨b2, o2, e, hc⟩, _⟩ := h.get ha
  cases e; exact hc
end
end Go.Proofs.YtkaikhcpcbjkcaaGreatDoor.M
/- More rules: maps with string keys, delete, len of a map, nil maps, array values, interface calls; things that lie below a block. Conditions: each rule's own hypotheses. -/
namespace Go.Proofs.YtkaikhcpcbjkcaaGreatDoor.M
open Go.RowKit
def strK (s : List UInt8) : Value := strV s
theorem strV_inj {s t : List UInt8} (h : strV s = strV t) : s = t := by
  simp only [strV, Value.string.injEq, ByteArray.mk.injEq] at h
  simpa using h
theorem keyOk_str {P : Program} {kt : TypeId} (hu : P.underlying kt = some .string) : KeyOk P kt strK where
  inj := fun a b h => strV_inj h
  bits := fun a => MapKept.sameBits_self (d := .string) (by simp [MapKept.IsKey, strK, strV]) _
  check := fun e a w => MapKept.run_checkKey hu (by simp [MapKept.IsKey, strK, strV]) e 9999
  find := fun a l w h => by
    rcases MapKept.findNow_spec (d := .string) (k := strK a) (by simp [MapKept.IsKey, strK, strV]) l 0 (fun x hx => by obtain ⟨b, hb⟩ := h x hx; rw [hb]; simp [MapKept.IsKey, strK, strV]) with ⟨h1, h2⟩ | ⟨j, e, h1, h2, h3⟩
    · exact .inr ⟨h2, MapKept.run_findKey hu h1⟩
    · refine .inl ⟨j, e, h2, h3, ?_⟩
      rw [Nat.zero_add] at h1
      exact MapKept.run_findKey hu h1
/-- how many keys a map has -/
def Card {κ : Type} (f : κ → Option Value) (n : Nat) : Prop := ∃ ks : List κ, ks.Nodup ∧ ks.length = n ∧ ∀ k, f k ≠ none ↔ k ∈ ks
theorem Card.zero {κ : Type} {f : κ → Option Value} {n : Nat} (h : Card f n) : n = 0 ↔ ∀ k, f k = none := by
  obtain ⟨ks, _, h2, h3⟩ := h
  constructor
  · intro h0 k
    have : ks = [] := List.eq_nil_of_length_eq_zero (by omega)
    subst this
    by_cases hq : f k = none
    · exact hq
    · exact absurd ((h3 k).1 hq) (by simp)
  · intro h
    cases ks with
    | nil => simpa using h2.symm
    | cons k ks => exact absurd (h k) ((h3 k).2 (by simp))
theorem Card.same {κ : Type} {f g : κ → Option Value} {n m : Nat} (h : Card f n) (h' : Card g m) (e : ∀ k, f k = none ↔ g k = none) : n = m := by
  obtain ⟨ks, h1, h2, h3⟩ := h
  obtain ⟨js, g1, g2, g3⟩ := h'
  have s1 : ∀ x ∈ ks, x ∈ js := fun x hx => (g3 x).1 fun q => ((h3 x).2 hx) ((e x).2 q)
  have s2 : ∀ x ∈ js, x ∈ ks := fun x hx => (h3 x).1 fun q => ((g3 x).2 hx) ((e x).1 q)
  have l1 := List.Nodup.length_le_of_subset h1 s1
  have l2 := List.Nodup.length_le_of_subset g1 s2
  omega
theorem MapAt.card {κ : Type} {kv : κ → Value} {w : World} {b : Nat} {es : Array MapEntry} {clock : Nat} {f : κ → Option Value} (h : MapAt kv w b es clock) (hinj : ∀ a b, kv a = kv b → a = b) (hr : Reads kv es f) : Card f es.size := by
  have hk : ∀ (l : List MapEntry), (∀ x ∈ l, ∃ a, x.key = kv a) → ∃ ks : List κ, l.map (·.key) = ks.map kv := by
    intro l
    induction l with
    | nil => intro _; exact ⟨[], rfl⟩
    | cons x l ih =>
      intro hl
      obtain ⟨a, ha⟩ := hl x (by simp)
      obtain ⟨ks, hks⟩ := ih fun y hy => hl y (by simp [hy])
      exact ⟨a :: ks, by simp [ha, hks]⟩
  obtain ⟨ks, hks⟩ := hk es.toList h.keys
  refine ⟨ks, ?_, ?_, fun k => ?_⟩
  · have hp : (es.toList.map (·.key)).Nodup := h.stamped.2.2
    rw [hks, List.Nodup, List.pairwise_map] at hp
    exact hp.imp fun hne e => hne (by rw [e])
  · have := congrArg List.length hks
    simpa using this.symm
  · constructor
    · intro hne
      cases hq : f k with
      | none => exact absurd hq hne
      | some v =>
        obtain ⟨e, he, hke, _⟩ := (hr k v).1 hq
        have : kv k ∈ ks.map kv := by rw [← hks, ← hke]; exact List.mem_map.2 ⟨e, he, rfl⟩
        obtain ⟨j, hj, hjk⟩ := List.mem_map.1 this
        rw [← hinj _ _ hjk]; exact hj
    · intro hm
      have : kv k ∈ es.toList.map (·.key) := by rw [hks]; exact List.mem_map.2 ⟨k, hm, rfl⟩
      obtain ⟨e, he, hke⟩ := List.mem_map.1 this
      rw [(hr k e.val).2 ⟨e, he, hke, rfl⟩]; simp
section
variable {κ : Type} {kv : κ → Value}
variable {P : Program} {n : Nat} {ops : Array Oper} {Q : Exit → Act → World → Prop} {rest : List Oper} {L : Env} {w : World} {d : Nat} {ty : TypeId} {pos : String} {aft : Array Edge} {As : List Th}
/-- delete(m, k) -/
theorem wl_delete {mt t2 kt et : TypeId} {x y : Operand} {b : Nat} {f : κ → Option Value} {k : κ} (i : Nat) (hS : Sat w As) (K : KeyOk P kt kv) (hm : P.underlying mt = some (.map kt et)) (hi : As[i]? = some (mapT kv b f)) (hx : look L x = some (.map (some b))) (hy : look L y = some (kv k)) {dst : Option Nat} (hd : dOk n dst = true)
    (hk : ∀ w', Sat w' (As.set i (mapT kv b (upd f k none))) → wl P n ops Q rest (pd dst (.tuple #[]) L) w') : wl P n ops Q (⟨dst, .call ⟨.builtin .delete, #[x, y], #[mt, t2]⟩, ty, pos, aft, none⟩ :: rest) L w := by
  obtain ⟨es, c, h1, h2⟩ := hS.map i hi
  refine wl_does rfl (by cases dst <;> exact hd) (fun a ha => does_delete mt t2 x y rfl K hm h1 (ha.eval hx) (ha.eval hy)) ?_
  rintro _ w' ⟨rfl, es', hes, h3, h4, _⟩
  refine hk w' (hS.map_set i hi h3 ?_ h4)
  intro j u
  by_cases hj : j = k
  · subst hj
    rw [upd_self]
    constructor
    · intro e; cases e
    · rintro ⟨e, he, hke, _⟩; exact absurd hke ((hes e).1 he).2
  · rw [upd_ne hj, h2 j u]
    constructor
    · rintro ⟨e, he, hke, hv⟩
      exact ⟨e, (hes e).2 ⟨he, fun q => hj (K.inj _ _ (hke.symm.trans q))⟩, hke, hv⟩
    · rintro ⟨e, he, hke, hv⟩
      exact ⟨e, ((hes e).1 he).1, hke, hv⟩
end
def byteV (c : UInt8) : Value := .int .u8 (c.toNat : Int)
theorem run_part1 {P : Program} {e : TypeId} (ha : aggB P e = some false) (xs : Array Value) (i : Nat) (v : Value) (hv : xs[i]? = some v) (w : World) : (part e xs i).run P w = .ok v w := by
  unfold part
  simp [aggB_false ha, hv]
section
variable {P : Program} {n : Nat} {ops : Array Oper} {Q : Exit → Act → World → Prop} {rest : List Oper} {L : Env} {w : World} {d : Nat} {ty : TypeId} {pos : String} {aft : Array Edge} {As : List Th}
/-- a method of an interface value is called -/
theorem wl_invoke {dst : Option Nat} {f t : Nat} {x : Operand} {name : String} {args : List Operand} {v v' : Value} {vs : List Value} {ts : Array TypeId} {R : Ending → World → Prop} (hx : look L x = some (.iface t v)) (hm : ∀ w : World, (method (P.types.size + Made.depth) t v name).run P w = .ok (f, v') w) (hf : callB P f = true) (ha : looks L args = some vs) (hc : Calls P f (v' :: vs).toArray w R) (hd : (match dst with | some d => Nat.blt d n | none => true) = true)
    (hk : ∀ e w', R e w' → ∃ v, e = .returned v ∧ wl P n ops Q rest (pd dst v L) w') : wl P n ops Q (⟨dst, .call ⟨.invoke x name, args.toArray, ts⟩, ty, pos, aft, none⟩ :: rest) L w := by
  unfold wl
  intro a hfr
  refine wpList_plain rfl fun K hK => ?_
  unfold Oper.wp
  have he := hfr.evals ha
  have hr : (execOp a.eval ⟨dst, .call ⟨.invoke x name, args.toArray, ts⟩, ty, pos, aft, none⟩).run P w = .ok (.enter f (v' :: vs).toArray) w := by
    have hm' := hm w
    simp only [execOp, resolve, hfr.eval hx]
    simp [invoke, callMethod, he, program, Sem.run] at hm' ⊢
    rw [hm']
    have := callB_run hf (v' :: vs).toArray w
    simpa [Sem.run] using this
  rw [hr]
  refine Calls.mono hc fun e w' hR => ?_
  obtain ⟨u, rfl, h⟩ := hk e w' hR
  unfold wl at h
  exact hK _ _ (h _ (hfr.put dst u hd))
/-- a method's value -/
theorem ev_makeMeth {name : String} {fs : List Operand} {vs : List Value} (hx : looks L fs = some vs) : Ev P L w ⟨some d, .makeFunc (.method name) fs.toArray #[], ty, pos, aft, none⟩ (.func (.method name) vs.toArray #[]) := fun ρ hρ => by
  have : fs.map ρ = vs := by
    induction fs generalizing vs with
    | nil => simp [looks] at hx; subst hx; rfl
    | cons y ys ih =>
      simp only [looks] at hx
      cases h1 : look L y with
      | none => simp [h1] at hx
      | some u =>
        cases h2 : looks L ys with
        | none => simp [h1, h2] at hx
        | some us => simp [h1, h2] at hx; subst hx; simp [hρ _ _ h1, ih h2]
  simp [execOp, Instr.makeFunc, this]
theorem ev_nilCheckMeth {x : Operand} {name : String} {t : Nat} {v : Value} (hx : look L x = some (.func (.method name) #[.iface t v] #[])) (hm : ∀ w : World, (nilAhead (P.types.size + Made.depth) t v name).run P w = .ok (some false) w) : Ev P L w ⟨some d, .nilCheck x, ty, pos, aft, none⟩ (.func (.method name) #[.iface t v] #[]) := fun ρ hρ => by
  have hm' := hm w
  simp [execOp, hρ _ _ hx, program, Sem.run] at hm' ⊢
  rw [hm']; simp
end
/-! ### what lies below a block -/
end Go.Proofs.YtkaikhcpcbjkcaaGreatDoor.M
/- Look-ups with two results, and maps with as many keys as another. Conditions: each rule's own hypotheses. -/
namespace Go.Proofs.YtkaikhcpcbjkcaaGreatDoor.M
open Go.RowKit
section
variable {P : Program} {n : Nat} {ops : Array Oper} {Q : Exit → Act → World → Prop} {rest : List Oper} {L : Env} {w : World} {d : Nat} {ty : TypeId} {pos : String} {aft : Array Edge} {κ : Type} {kv : κ → Value} {As : List Th}
theorem Card.sub {f g : κ → Option Value} {m : Nat} (h : Card f m) (h' : Card g m) (e : ∀ k v, f k = some v → g k = some v) : f = g := by
  obtain ⟨ks, h1, h2, h3⟩ := h
  obtain ⟨js, g1, g2, g3⟩ := h'
  have s1 : ∀ x ∈ ks, x ∈ js := fun x hx => (g3 x).1 fun q => by
    cases hf : f x with
    | none => exact ((h3 x).2 hx) hf
    | some v => rw [e x v hf] at q; cases q
  have s2 : ∀ x ∈ js, x ∈ ks := fun x hx => Classical.byContradiction fun hn => by
    have := List.Nodup.length_le_of_subset (l₂ := js) (List.nodup_cons.2 ⟨hn, h1⟩) (by
      intro y hy
      rcases List.mem_cons.1 hy with rfl | hy
      · exact hx
      · exact s1 y hy)
    simp at this; omega
  funext k
  cases hf : f k with
  | some v => exact (e k v hf).symm
  | none =>
    cases hg : g k with
    | none => rfl
    | some v => exact absurd hf ((h3 k).2 (s2 k ((g3 k).1 (by rw [hg]; simp))))
end
end Go.Proofs.YtkaikhcpcbjkcaaGreatDoor.M
/- Rules for shifts and for | of numbers whose bits lie apart. Conditions: each rule's own hypotheses. -/
namespace Go.Proofs.YtkaikhcpcbjkcaaGreatDoor.M
open Go.RowKit
section
variable {P : Program} {n : Nat} {ops : Array Oper} {Q : Exit → Act → World → Prop} {rest : List Oper} {L : Env} {w : World} {d : Nat} {ty : TypeId} {pos : String} {aft : Array Edge} {t t2 : TypeId} {x y : Operand} {a b : Int} {yk : IntKind}
/-- a byte as a number, a number as a byte -/
theorem ev_convU8 {sT dT : TypeId} {ds : TypeDesc} {c : UInt8} (hs : P.underlying sT = some ds) (ht : P.underlying dT = some (.int .i64)) (hx : look L x = some (.int .u8 (c.toNat : Int))) : Ev P L w ⟨some d, .convert sT dT x, ty, pos, aft, none⟩ (.int .i64 (c.toNat : Int)) :=
  ev_convII hs ht hx (by have := c.toNat_lt; exact wrap64 (by omega) (by omega))
theorem wl_convU8 {sT dT : TypeId} {ds : TypeDesc} {c : UInt8} (hs : P.underlying sT = some ds) (ht : P.underlying dT = some (.int .i64)) (hx : look L x = some (.int .u8 (c.toNat : Int))) (hd : Nat.blt d n = true) (hk : wl P n ops Q rest ((d, .int .i64 (c.toNat : Int)) :: L) w) : wl P n ops Q (⟨some d, .convert sT dT x, ty, pos, aft, none⟩ :: rest) L w := wl_val hd (ev_convU8 hs ht hx) hk
theorem wrap_u8 (m : Nat) : IntKind.u8.wrap (m : Int) = ((UInt8.ofNat m).toNat : Int) := by
  simp [IntKind.wrap, IntKind.signed, IntKind.bits]
theorem ev_convToU8 {sT dT : TypeId} {ds : TypeDesc} {k : IntKind} {a : Int} (m : Nat) (hs : P.underlying sT = some ds) (ht : P.underlying dT = some (.int .u8)) (hx : look L x = some (.int k a)) (ha : a = (m : Int)) : Ev P L w ⟨some d, .convert sT dT x, ty, pos, aft, none⟩ (.int .u8 ((UInt8.ofNat m).toNat : Int)) :=
  ev_convII hs ht hx (by rw [ha]; exact wrap_u8 m)
theorem wl_convToU8 {sT dT : TypeId} {ds : TypeDesc} {k : IntKind} {a : Int} (m : Nat) (hs : P.underlying sT = some ds) (ht : P.underlying dT = some (.int .u8)) (hx : look L x = some (.int k a)) (ha : a = (m : Int)) (hd : Nat.blt d n = true) (hk : wl P n ops Q rest ((d, .int .u8 ((UInt8.ofNat m).toNat : Int)) :: L) w) : wl P n ops Q (⟨some d, .convert sT dT x, ty, pos, aft, none⟩ :: rest) L w := wl_val hd (ev_convToU8 m hs ht hx ha) hk
end
end Go.Proofs.YtkaikhcpcbjkcaaGreatDoor.M
/- world: what a world is, in plain data, and how it lies in memory. -/
namespace Go.Proofs.YtkaikhcpcbjkcaaGreatDoor
open Go.RowKit M
abbrev Bs := List UInt8
structure WS where
  cells : Bs → Bs
  objs : Bs → Int → Option Bs
  logs : Bs → Bs
  time : Int
def zero64 : Bs := List.replicate 64 0
def pageV (s : Bs) : Value := .agg (s.map byteV).toArray
def cellsG (c : Bs → Bs) (k : Bs) : Option Value := if c k = [] then none else some (strV (c k))
def pagesG (o : Int → Option Bs) (p : Int) : Option Value := (o p).map pageV
def pageOf (o : Option Bs) : Bs := o.getD zero64
structure PagesOk (O : Bs → Int → Option Bs) : Prop where
  ok : ∀ n p s, O n p = some s → s.length = 64 ∧ s ≠ zero64 ∧ 0 ≤ p ∧ p < 256
theorem PagesOk.len {O : Bs → Int → Option Bs} (h : PagesOk O) (n : Bs) (p : Int) : (pageOf (O n p)).length = 64 := by
  unfold pageOf
  cases hq : O n p with
  | none => rfl
  | some s => exact (h.ok n p s hq).1
def assoc (L : List (Bs × Nat)) (n : Bs) : Option Nat := (L.find? fun x => decide (x.1 = n)).map (·.2)
structure ObjL (L : List (Bs × Nat)) (O : Bs → Int → Option Bs) : Prop where
  nodup : (L.map (·.1)).Nodup
  has : ∀ n, n ∈ L.map (·.1) ↔ ∃ p, O n p ≠ none
def namesG (L : List (Bs × Nat)) (n : Bs) : Option Value := (assoc L n).map fun m => .map (some m)
def thOf (O : Bs → Int → Option Bs) (x : Bs × Nat) : Th := mapT intK x.2 (pagesG (O x.1))
def objsT (b : Nat) (O : Bs → Int → Option Bs) : Th := exT fun L : List (Bs × Nat) => starL [pureT (ObjL L O), mapT strK b (namesG L), starL (L.map (thOf O))]
structure WL where
  bc : Nat
  bo : Nat
  bl : Nat
def cellsW (L : WL) (t : Int) : List Value := [.map (some L.bc), .map (some L.bo), .map (some L.bl), intV t]
def worldT (p : Nat) (W : WS) : Th := exT fun L : WL => starL [pureT (PagesOk W.objs), blkT p (cellsW L W.time), mapT strK L.bc (cellsG W.cells), objsT L.bo W.objs, mapT strK L.bl (cellsG W.logs)]
section
variable {w : World} {As : List Th}
theorem worldT_open {p : Nat} {W : WS} (h : Sat w (worldT p W :: As)) : ∃ L : WL, PagesOk W.objs ∧ Sat w (blkT p (cellsW L W.time) :: mapT strK L.bc (cellsG W.cells) :: objsT L.bo W.objs :: mapT strK L.bl (cellsG W.logs) :: As) := by
  obtain ⟨L, h⟩ := h.ex
  exact ⟨L, h.flat.pure_elim⟩
theorem worldT_shut {p : Nat} {W : WS} (L : WL) (hi : PagesOk W.objs) (h : Sat w (blkT p (cellsW L W.time) :: mapT strK L.bc (cellsG W.cells) :: objsT L.bo W.objs :: mapT strK L.bl (cellsG W.logs) :: As)) : Sat w (worldT p W :: As) :=
  Sat.ex_intro L (Sat.fold (As := [pureT (PagesOk W.objs), blkT p (cellsW L W.time), mapT strK L.bc (cellsG W.cells), objsT L.bo W.objs, mapT strK L.bl (cellsG W.logs)]) (Sat.pure_intro hi h))
theorem objsT_shut {b : Nat} {O : Bs → Int → Option Bs} (L : List (Bs × Nat)) (hi : ObjL L O) (h : Sat w (mapT strK b (namesG L) :: starL (L.map (thOf O)) :: As)) : Sat w (objsT b O :: As) :=
  Sat.ex_intro L (Sat.fold (As := [pureT (ObjL L O), mapT strK b (namesG L), starL (L.map (thOf O))]) (Sat.pure_intro hi h))
end
theorem assoc_none {L : List (Bs × Nat)} {n : Bs} : assoc L n = none ↔ n ∉ L.map (·.1) := by
  unfold assoc
  rw [Option.map_eq_none_iff, List.find?_eq_none]
  simp
  constructor
  · intro h x hx; exact h _ _ hx rfl
  · intro h a b hab e; subst e; exact h b hab
def updC (c : Bs → Bs) (k v : Bs) : Bs → Bs := fun j => if j = k then v else c j
theorem cellsG_put {c : Bs → Bs} {k v : Bs} (h : v ≠ []) : upd (cellsG c) k (some (strV v)) = cellsG (updC c k v) := by
  funext j
  by_cases hj : j = k
  · subst hj; rw [upd_self]; simp [cellsG, updC, h]
  · rw [upd_ne hj]; simp [cellsG, updC, hj]
theorem cellsG_del {c : Bs → Bs} {k : Bs} : upd (cellsG c) k none = cellsG (updC c k []) := by
  funext j
  by_cases hj : j = k
  · subst hj; rw [upd_self]; simp [cellsG, updC]
  · rw [upd_ne hj]; simp [cellsG, updC, hj]
theorem cellsG_get (c : Bs → Bs) (k : Bs) : (cellsG c k).getD (strV []) = strV (c k) := by
  unfold cellsG; split
  · rename_i h; rw [h]; rfl
  · rfl
def setO (O : Bs → Int → Option Bs) (n : Bs) (p : Int) (s : Bs) : Bs → Int → Option Bs := fun m q => if m = n ∧ q = p then (if s = zero64 then none else some s) else O m q
theorem PagesOk.set {O : Bs → Int → Option Bs} (h : PagesOk O) {n : Bs} {p : Int} {s : Bs} (hs : s.length = 64) (hp : 0 ≤ p ∧ p < 256) : PagesOk (setO O n p s) := by
  refine ⟨fun m q t ht => ?_⟩
  unfold setO at ht
  split at ht
  · rename_i hc
    split at ht
    · cases ht
    · rename_i hz; cases ht; exact ⟨hs, hz, by omega, by omega⟩
  · exact h.ok m q t ht
end Go.Proofs.YtkaikhcpcbjkcaaGreatDoor
/- The shelf's contracts as contracts of things: fresh copies of strings, sorting. Conditions: each one's own hypotheses. -/
namespace Go.Proofs.YtkaikhcpcbjkcaaGreatDoor.M
open Go.RowKit Go.Sort
def stC : RowC (List UInt8) := ⟨fun s => [strV s], 1, by decide, fun _ => rfl, fun _ => rfl⟩
theorem stC_cells (l : List (List UInt8)) : stC.cells l = l.map strV := by induction l with | nil => rfl | cons a l ih => simp only [RowC.cells, List.flatMap_cons, List.map_cons] at ih ⊢; rw [ih]; rfl
theorem Sat.belowAll {w w' : World} {As : List Th} (h : Sat w As) (hb : RowKit.Below w.heap.size w w') : Sat w' As := h.only ⟨hb.os, hb.tape, hb.output, hb.size, fun k hk _ => hb.block k hk⟩
theorem calls_below {P : Program} {f : Nat} {args : Array Value} {w : World} {v : Value} {As : List Th} (hS : Sat w As) (h : Calls P f args w fun e w' => e = .returned v ∧ RowKit.Below w.heap.size w w') : Calls P f args w (Ret fun u w' => u = v ∧ Sat w' As) :=
  h.mono fun e w' ⟨h1, h2⟩ => ⟨v, h1, rfl, hS.belowAll h2⟩
def sortS (l : List (List UInt8)) : List (List UInt8) := l.mergeSort fun x y => decide (x ≤ y)
theorem sortS_perm (l : List (List UInt8)) : (sortS l).Perm l := List.mergeSort_perm _ _
theorem sortS_len (l : List (List UInt8)) : (sortS l).length = l.length := (sortS_perm l).length_eq
theorem putCells_all (d xs : List (List UInt8)) (sp : List Value) (h : d.length = xs.length) : (putCells encStr 0 d.toArray (xs.map strV ++ sp).toArray) = (d.map strV ++ sp).toArray := by
  apply Array.ext_getElem?
  intro k
  unfold putCells
  simp only [Array.getElem?_mapIdx, List.getElem?_toArray, Nat.zero_le, true_and, Nat.zero_add, Nat.sub_zero, List.size_toArray]
  by_cases hk : k < d.length
  · rw [List.getElem?_append_left (by simpa [← h] using hk), List.getElem?_append_left (by simpa using hk)]
    simp [hk, h ▸ hk, encStr, strV]
  · rw [List.getElem?_append_right (by simp; omega), List.getElem?_append_right (by simp; omega)]
    have hk' : ¬ k < xs.length := by omega
    simp only [List.length_map, h, hk', if_false, Option.map_id']
theorem calls_sort {P : Program} {f : Nat}
    (hsome : ∀ (blk off cap : Nat) (ss : List (List UInt8)) (w : World), Holds encStr w blk off ss.toArray → blk < w.heap.size → ss.length < 4611686018427387904 → Calls P f #[.slice (some ⟨blk, off, none⟩) ss.length cap] w fun e w' => e = .returned (.tuple #[]) ∧ ∃ n os, w' = grow (putRow encStr (Go.Sort.ahead w n) blk off (ss.mergeSort fun x y => decide (x ≤ y)).toArray) os)
    (hnone : ∀ (p : Option Addr) (cap : Nat) (w : World), Calls P f #[.slice p 0 cap] w fun e w' => e = .returned (.tuple #[]) ∧ w' = w)
    {w : World} {v : Value} {l : List (List UInt8)} {As : List Th} (hS : Sat w (rowT stC v l :: As)) (hl : l.length < 4611686018427387904) : Calls P f #[v] w (Ret fun u w' => u = .tuple #[] ∧ Sat w' (rowT stC v (sortS l) :: As)) := by
  obtain ⟨foot, hlen, h⟩ := hS.own 0 rfl
  rcases h with ⟨rfl, hn, hf⟩ | ⟨b, cap, sp, rfl, hcap, hb, hsz, hf⟩
  · have : l = [] := List.eq_nil_of_length_eq_zero hn
    subst this
    exact (hnone none 0 w).mono fun e w' ⟨h1, h2⟩ => ⟨_, h1, rfl, by rw [h2]; simpa [sortS] using hS⟩
  · have hH : Holds encStr w b 0 l.toArray := fun j hj => by
      have hj' : j < l.length := by simpa using hj
      rw [stC_cells] at hb
      refine ⟨?_, ?_⟩
      · rw [Nat.zero_add]
        refine hb.cell ?_
        rw [List.getElem?_append_left (by simpa using hj')]
        simp [hj', encStr, strV]
      · exact hb.free _ (by simp; omega)
    refine (hsome b 0 cap l w hH hb.lt hl).mono fun e w' ⟨h1, n, os, h2⟩ => ⟨_, h1, rfl, ?_⟩
    have hlt := hb.lt
    have hheap : ∀ k, k < w.heap.size → k ≠ b → w'.heap[k]? = w.heap[k]? := fun k hk hne => by
      rw [h2, heap_grow_old _ _ (by simpa using hk)]
      simp only [putRow, mapBlock, heap_ahead, Array.getElem?_modify]
      rw [if_neg (fun q => hne q.symm)]
    obtain ⟨T, lo, hi, hc, hfz⟩ := hb
    have hnew : w'.heap[b]? = some (.cells ((sortS l).map strV ++ sp).toArray T (lo, hi)) := by
      rw [h2, heap_grow_old _ _ (by simpa using hlt)]
      simp only [putRow, mapBlock, heap_ahead, Array.getElem?_modify, if_pos, hc, Option.map_some, onCells, stC_cells]
      rw [show (l.mergeSort fun x y => decide (x ≤ y)) = sortS l from rfl, putCells_all _ _ _ (sortS_len l)]
    have ho : Only [b] w w' := by
      refine ⟨?_, ?_, ?_, ?_, fun k hk hn => hheap k hk (by simpa using hn)⟩
      · rw [h2]; rfl
      · rw [h2]; rfl
      · rw [h2]; rfl
      · rw [h2]; simp
    have hfin := hS.own_set (w' := w') 0 rfl (v' := .slice (some ⟨b, 0, none⟩) l.length cap) (n' := l.length) (size' := 1) (xs' := stC.cells (sortS l)) (fun foot' g => by
      obtain ⟨_, g⟩ := g
      rcases g with ⟨g0, _⟩ | ⟨b', cap', sp', g0, g1, g2, g3, g4⟩
      · cases g0
      · simp only [Value.slice.injEq, Option.some.injEq, Addr.mk.injEq, and_true, true_and] at g0
        obtain ⟨rfl, rfl⟩ := g0
        refine ⟨[b], ⟨?_, .inr ⟨b, cap, sp, rfl, hcap, ⟨T, lo, hi, ?_, ?_⟩, ?_, rfl⟩⟩, ?_, ?_⟩
        · rw [stC.cells_len, sortS_len]; rfl
        · rw [stC_cells]; exact hnew
        · rcases hfz with q | q
          · exact .inl q
          · refine .inr ?_
            simp only [List.length_append, stC.cells_len, sortS_len] at q ⊢; exact q
        · simp only [List.length_append, stC.cells_len, sortS_len] at hsz ⊢; exact hsz
        · rw [g4]; exact ho
        · rw [g4]; intro k hk; exact .inl hk)
    have e : (sortS l).length = l.length := sortS_len l
    show Sat w' (ownT _ (sortS l).length 1 _ :: As)
    rw [e]; exact hfin
end Go.Proofs.YtkaikhcpcbjkcaaGreatDoor.M
/- wire: numbers as text and back, in plain data; comparing interface values with nil. Conditions: each lemma's own hypotheses. -/
namespace Go.Proofs.YtkaikhcpcbjkcaaGreatDoor
open Go.RowKit M
def inI (n : Int) : Prop := -9223372036854775808 ≤ n ∧ n ≤ 9223372036854775807
theorem nDigits_le : ∀ (k u : Nat), u < 10 ^ (k + 1) → Lib.nDigits u ≤ k + 1
  | 0, u, h => by rw [Lib.nDigits_small (by simpa using h)]; exact Nat.le_refl _
  | k + 1, u, h => by
    by_cases hu : u < 10
    · rw [Lib.nDigits_small hu]; omega
    · rw [Lib.nDigits_big hu]
      have := nDigits_le k (u / 10) (by rw [Nat.pow_succ] at h; omega)
      omega
theorem decDigits_digit (u : Nat) : ∀ b ∈ Lib.decDigits u, 48 ≤ b.toNat ∧ b.toNat ≤ 57 := by
  induction u using Nat.strongRecOn with
  | _ u ih =>
    rw [Lib.decDigits]
    split
    · rename_i h
      intro b hb
      simp only [List.mem_singleton] at hb
      subst hb
      have : (UInt8.ofNat (48 + u)).toNat = 48 + u := by simp; omega
      omega
    · rename_i h
      intro b hb
      rcases List.mem_append.1 hb with hb | hb
      · exact ih (u / 10) (by omega) b hb
      · simp only [List.mem_singleton] at hb
        subst hb
        have : (UInt8.ofNat (48 + u % 10)).toNat = 48 + u % 10 := by simp; omega
        omega
theorem decDigits_ne (u : Nat) : Lib.decDigits u ≠ [] := by
  rw [Lib.decDigits]; split <;> simp
theorem parse_append : ∀ (l r : Bs) (a : Nat), Lib.parseUint10 a (l ++ r) = match Lib.parseUint10 a l with | .ok v => Lib.parseUint10 v r | .«syntax» => .«syntax» | .range => .range
  | [], r, a => by simp [Lib.parseUint10]
  | c :: l, r, a => by
    simp only [List.cons_append, Lib.parseUint10]
    split
    · split
      · rfl
      · split
        · rfl
        · exact parse_append l r _
    · rfl
theorem parse_digits (u : Nat) (h : u < 18446744073709551616) : Lib.parseUint10 0 (Lib.decDigits u) = .ok u := by
  induction u using Nat.strongRecOn with
  | _ u ih =>
    rw [Lib.decDigits]
    split
    · rename_i hu
      have e : (UInt8.ofNat (48 + u)).toNat = 48 + u := by simp; omega
      simp only [Lib.parseUint10, e]
      rw [if_pos (by omega), if_neg (by omega), if_neg (by omega)]
      congr 1; omega
    · rename_i hu
      rw [parse_append, ih (u / 10) (by omega) (by omega)]
      have e : (UInt8.ofNat (48 + u % 10)).toNat = 48 + u % 10 := by simp; omega
      simp only [Lib.parseUint10, e]
      rw [if_pos (by omega), if_neg (by omega), if_neg (by omega)]
      congr 1; omega
theorem parseMag_digits (u : Nat) (h : u < 18446744073709551616) : Lib.parseMag (Lib.decDigits u) = .ok u := by
  rw [Lib.parseMag, if_neg (decDigits_ne u), parse_digits u h]
theorem atoi_itoa {n : Int} (h : inI n) : Lib.atoiAll (Lib.itoa n) = .ok n := by
  obtain ⟨h0, h1⟩ := h
  by_cases hn : n < 0
  · obtain ⟨u, rfl⟩ : ∃ u : Nat, n = -(u : Int) := ⟨n.natAbs, by omega⟩
    rw [Lib.itoa_neg u (by omega)]
    have e45 : (45 : UInt8).toNat = 45 := rfl
    simp only [Lib.atoiAll, e45]
    simp only [or_true, if_true, parseMag_digits u (show u < 18446744073709551616 by omega), not_true, false_and, if_false, true_and]
    rw [if_neg (by omega)]
  · obtain ⟨u, rfl⟩ : ∃ u : Nat, n = u := ⟨n.toNat, by omega⟩
    rw [Lib.itoa_nonneg]
    cases hd : Lib.decDigits u with
    | nil => exact absurd hd (decDigits_ne u)
    | cons c r =>
      have hc := decDigits_digit u c (by rw [hd]; simp)
      simp only [Lib.atoiAll]
      rw [if_neg (by omega), ← hd, parseMag_digits u (by omega)]
      simp only [show (c.toNat = 45) = False from by simp; omega, not_false_eq_true, true_and, false_and, if_false]
      rw [if_neg (by omega)]
theorem atoi_in {l : Bs} {n : Int} (h : Lib.atoiAll l = .ok n) : inI n := by
  cases l with
  | nil => simp [Lib.atoiAll] at h
  | cons c r =>
    simp only [Lib.atoiAll] at h
    split at h
    · cases h
    · cases h
    · rename_i u hu
      split at h
      · cases h
      split at h
      · cases h
      have hlt := Lib.parseMag_lt hu
      injection h with h
      subst h
      unfold inI
      split <;> omega
theorem itoa_len {n : Int} (h : inI n) : (Lib.itoa n).length ≤ 20 ∧ 1 ≤ (Lib.itoa n).length := by
  obtain ⟨h0, h1⟩ := h
  by_cases hn : n < 0
  · obtain ⟨u, rfl⟩ : ∃ u : Nat, n = -(u : Int) := ⟨n.natAbs, by omega⟩
    rw [Lib.itoa_neg u (by omega), List.length_cons, Lib.decDigits_length]
    have := nDigits_le 18 u (by simp; omega)
    omega
  · obtain ⟨u, rfl⟩ : ∃ u : Nat, n = u := ⟨n.toNat, by omega⟩
    rw [Lib.itoa_nonneg, Lib.decDigits_length]
    have := nDigits_le 18 u (by simp; omega)
    have := Lib.nDigits_pos u
    omega
theorem itoa_byte {n : Int} : ∀ b ∈ Lib.itoa n, b.toNat ≤ 57 := by
  intro b hb
  by_cases hn : n < 0
  · obtain ⟨u, rfl⟩ : ∃ u : Nat, n = -(u : Int) := ⟨n.natAbs, by omega⟩
    rw [Lib.itoa_neg u (by omega)] at hb
    rcases List.mem_cons.1 hb with rfl | hb
    · decide
    · exact (decDigits_digit u b hb).2
  · obtain ⟨u, rfl⟩ : ∃ u : Nat, n = u := ⟨n.toNat, by omega⟩
    rw [Lib.itoa_nonneg] at hb
    exact (decDigits_digit u b hb).2
theorem indexByte_app {e : UInt8} : ∀ (l r : Bs), e ∉ l → Lib.indexByte (l ++ e :: r) e = (l.length : Int)
  | [], r, _ => by simp [Lib.indexByte]
  | b :: l, r, h => by
    have hb : ¬ b = e := fun q => h (by simp [q])
    have := indexByte_app (e := e) l r (fun q => h (List.mem_cons_of_mem _ q))
    simp only [List.cons_append, Lib.indexByte, this]
    rw [if_neg (by simpa using hb), if_neg (by simp)]
    simp
/-- what 'number' reads: the number and the rest -/
def numP (e : UInt8) (least : Int) (rest : Bs) : Option (Int × Bs) :=
  if Lib.indexByte (rest.take 21) e < 0 then none
  else match Lib.atoiAll ((rest.take 21).take (Lib.indexByte (rest.take 21) e).toNat) with
    | .ok n => if Lib.itoa n = (rest.take 21).take (Lib.indexByte (rest.take 21) e).toNat ∧ least ≤ n then some (n, rest.drop ((Lib.indexByte (rest.take 21) e).toNat + 1)) else none
    | _ => none
theorem numP_enc {e : UInt8} {least n : Int} {r : Bs} (he : 57 < e.toNat) (hn : inI n) (hl : least ≤ n) : numP e least (Lib.itoa n ++ e :: r) = some (n, r) := by
  have hlen := itoa_len hn
  have hmem : e ∉ Lib.itoa n := fun q => by have := itoa_byte e q; omega
  have ht : (Lib.itoa n ++ e :: r).take 21 = Lib.itoa n ++ e :: r.take (20 - (Lib.itoa n).length) := by
    rw [List.take_append, List.take_of_length_le (by omega), show 21 - (Lib.itoa n).length = (20 - (Lib.itoa n).length) + 1 by omega, List.take_succ_cons]
  have hi : Lib.indexByte ((Lib.itoa n ++ e :: r).take 21) e = ((Lib.itoa n).length : Int) := by rw [ht]; exact indexByte_app _ _ hmem
  have ht2 : ((Lib.itoa n ++ e :: r).take 21).take (Lib.itoa n).length = Lib.itoa n := by rw [ht, List.take_left']; rfl
  unfold numP
  rw [hi, if_neg (by omega)]
  rw [Int.toNat_natCast, ht2, atoi_itoa hn]
  dsimp only
  rw [if_pos ⟨rfl, hl⟩, List.drop_append, List.drop_eq_nil_of_le (by omega), show (Lib.itoa n).length + 1 - (Lib.itoa n).length = 1 by omega]
  rfl
theorem numP_some {e : UInt8} {least n : Int} {rest r : Bs} (h : numP e least rest = some (n, r)) : rest = Lib.itoa n ++ e :: r ∧ inI n ∧ least ≤ n := by
  unfold numP at h
  split at h
  · cases h
  · rename_i hneg
    split at h
    · rename_i m hm
      split at h
      · rename_i hc
        injection h with h
        injection h with h1 h2
        subst h1
        obtain ⟨o, ho⟩ : ∃ o : Nat, Lib.indexByte (rest.take 21) e = o := ⟨(Lib.indexByte (rest.take 21) e).toNat, by omega⟩
        rw [ho, Int.toNat_natCast] at hc h2 hm
        have h3 := (Lib.indexByte_some ho).1
        have h4 : o < 21 ∧ rest[o]? = some e := by
          have := (List.getElem?_eq_some_iff.1 h3).1
          simp at this
          rw [List.getElem?_take, if_pos (by omega)] at h3
          exact ⟨by omega, h3⟩
        refine ⟨?_, atoi_in hm, hc.2⟩
        rw [hc.1, ← h2, List.take_take, Nat.min_eq_left (by omega)]
        have h5 := (List.getElem?_eq_some_iff.1 h4.2)
        rw [← h5.2, List.getElem_cons_drop, List.take_append_drop]
      · cases h
    · cases h
section
variable {P : Program} {n : Nat} {ops : Array Oper} {Q : Exit → Act → World → Prop} {rest : List Oper} {L : Env} {w : World} {d : Nat} {ty : TypeId} {pos : String} {aft : Array Edge}
def isIface (P : Program) (t : Nat) : Bool := match P.underlying t with | some (.interface _) => true | _ => false
theorem ev_neqIfNil {x : Operand} {t t2 : TypeId} {v : Value} {g : Bool} (hu : isIface P t = true) (hv : (v = .nilIface ∧ g = false) ∨ ∃ a b, v = .iface a b ∧ g = true) (hx : M.look L x = some v) : Ev P L w ⟨some d, .binOp .neq t x (.const .nilIface) t2, ty, pos, aft, none⟩ (.bool g) := fun ρ hρ => by
  have hy : ρ (.const .nilIface) = .nilIface := hρ _ _ rfl
  unfold isIface at hu
  cases hq : P.underlying t with
  | none => rw [hq] at hu; cases hu
  | some dsc =>
    rw [hq] at hu
    cases dsc <;> simp at hu
    rcases hv with ⟨rfl, rfl⟩ | ⟨a, b, rfl, rfl⟩
    · have hr : (Op.equal t .nilIface .nilIface).run P w = .ok true w := by
        unfold Op.equal Op.maxDepth Op.equalIn
        simp only [Sem.run_bind, run_underlying hq, Result.andThen]
        rfl
      simp [execOp, hρ _ _ hx, hy, eqGuard, binOp, hr]
    · have hr : (Op.equal t (.iface a b) .nilIface).run P w = .ok false w := by
        unfold Op.equal Op.maxDepth Op.equalIn
        simp only [Sem.run_bind, run_underlying hq, Result.andThen]
        rfl
      simp [execOp, hρ _ _ hx, hy, eqGuard, binOp, hr]
end
end Go.Proofs.YtkaikhcpcbjkcaaGreatDoor
