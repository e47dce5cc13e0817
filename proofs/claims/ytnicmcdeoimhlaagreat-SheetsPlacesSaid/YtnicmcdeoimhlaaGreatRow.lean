/- Rows of elements: owned slices and slices that are read, by a codec of the element. Conditions: each rule's own hypotheses. -/
import Derived.Test.YtnicmcdeoimhlaaGreatMap
import Derived.Sort.EncStr
import Derived.Sort.Grow
namespace Go.Proofs.YtnicmcdeoimhlaaGreat.M
open Go.RowKit
/-- how an element lies in cells -/
structure RowC (α : Type) where
  enc : α → List Value
  size : Nat
  pos : 0 < size
  len : ∀ a, (enc a).length = size
  one : ∀ a, allOne (enc a) = true
def RowC.cells {α : Type} (C : RowC α) (l : List α) : List Value := l.flatMap C.enc
section
variable {α : Type} {C : RowC α} {l l2 : List α} {a : α} {j : Nat}
theorem RowC.cells_len (C : RowC α) (l : List α) : (C.cells l).length = l.length * C.size := by
  induction l with
  | nil => simp [RowC.cells]
  | cons a l ih => simp only [RowC.cells, List.flatMap_cons, List.length_append, C.len, List.length_cons] at ih ⊢; rw [ih, Nat.add_mul]; omega
theorem RowC.cells_one (C : RowC α) (l : List α) : allOne (C.cells l) = true := allOne_mk (by
  intro v hv
  obtain ⟨a, _, h⟩ := List.mem_flatMap.1 hv
  exact allOne_spec (C.one a) v h)
theorem RowC.cells_app (C : RowC α) (l l2 : List α) : C.cells l ++ C.cells l2 = C.cells (l ++ l2) := by simp [RowC.cells]
theorem RowC.cells_at : ∀ {l : List α} {j : Nat}, l[j]? = some a → ((C.cells l).drop (j * C.size)).take C.size = C.enc a
  | [], j, h => by simp at h
  | b :: l, 0, h => by
    simp at h; subst h
    rw [Nat.zero_mul, List.drop_zero]
    show (C.enc b ++ C.cells l).take C.size = _
    rw [← C.len b, List.take_left]
  | b :: l, j + 1, h => by
    have e : (j + 1) * C.size = (C.enc b).length + j * C.size := by rw [C.len, Nat.add_mul]; omega
    show ((C.enc b ++ C.cells l).drop _).take _ = _
    rw [e, ← List.drop_drop, List.drop_left]
    exact RowC.cells_at (by simpa using h)
theorem RowC.cells_get {o : Nat} {u : Value} (h : l[j]? = some a) (ho : (C.enc a)[o]? = some u) : (C.cells l)[j * C.size + o]? = some u := by
  have h1 := RowC.cells_at (C := C) h
  rw [← h1, List.getElem?_take] at ho
  split at ho
  · rw [List.getElem?_drop] at ho; exact ho
  · cases ho
theorem RowC.cells_set {X : List Value} (hX : X = C.enc a) : ∀ {l : List α} {j : Nat}, j < l.length → splice (C.cells l) (j * C.size) X = C.cells (l.set j a)
  | [], j, h => by simp at h
  | b :: l, 0, h => by
    subst hX
    rw [Nat.zero_mul]
    show splice (C.enc b ++ C.cells l) 0 (C.enc a) = C.enc a ++ C.cells l
    unfold splice
    rw [Nat.zero_add, C.len, ← C.len b, List.drop_left]; rfl
  | b :: l, j + 1, h => by
    have e : (j + 1) * C.size = (C.enc b).length + j * C.size := by rw [C.len, Nat.add_mul]; omega
    show splice (C.enc b ++ C.cells l) _ _ = C.enc b ++ C.cells (l.set j a)
    rw [e, splice_append_right, RowC.cells_set hX (by simpa using h)]
theorem RowC.cells_take (C : RowC α) : ∀ (l : List α) (i : Nat), (C.cells l).take (i * C.size) = C.cells (l.take i)
  | [], i => by simp [RowC.cells]
  | b :: l, 0 => by simp [RowC.cells]
  | b :: l, i + 1 => by
    have e : (i + 1) * C.size = (C.enc b).length + i * C.size := by rw [C.len, Nat.add_mul]; omega
    show (C.enc b ++ C.cells l).take _ = C.enc b ++ C.cells (l.take i)
    rw [e, List.take_length_add_append, RowC.cells_take C l i]
end
abbrev rowT {α : Type} (C : RowC α) (v : Value) (l : List α) : Th := ownT v l.length C.size (C.cells l)
theorem Sat.row_cast {α : Type} {C : RowC α} {w : World} {As : List Th} {v : Value} {m size : Nat} {xs : List Value} {l : List α} (h : Sat w (ownT v m size xs :: As)) (hm : m = l.length) (hs : size = C.size) (hx : xs = C.cells l) : Sat w (rowT C v l :: As) := by subst hm hs hx; exact h
def maskOf (n : Nat) (is : List Nat) : List Bool := (List.range n).map (is.contains ·)
/-- some of the things, in this order; the others are dropped -/
theorem Sat.pick {w : World} {As : List Th} (h : Sat w As) (is : List Nat) (hm : maskOk As.length is (maskOf As.length is) = true) : Sat w (pickA As is) := by
  have h1 := h.split is _ hm
  have h2 := h1.drop (pickA As is).length (A := starL (selF (maskOf As.length is) As)) (by simp)
  rw [List.eraseIdx_append_of_length_le (Nat.le_refl _), Nat.sub_self] at h2
  simpa using h2
/-- an empty row -/
theorem Sat.row_nil {α : Type} (C : RowC α) {w : World} {As : List Th} (h : Sat w As) : Sat w (rowT C (.slice none 0 0) [] :: As) :=
  h.new (Only.refl [] w) (A := ownT (.slice none 0 0) 0 C.size []) (F' := fun k => k ∈ ([] : List Nat)) ⟨[], rfl, Own.nil w C.size⟩ (by simp)
/-- a slice that is read -/
def RdL {α : Type} (C : RowC α) (v : Value) (l : List α) (w : World) : Prop := ∃ ao cap, v = .slice ao l.length cap ∧ l.length ≤ 9223372036854775807 ∧ ∀ (i : Nat) (a : α), l[i]? = some a → ∃ b off, ao = some ⟨b, off, none⟩ ∧ ∀ (j : Nat) (u : Value), (C.enc a)[j]? = some u → w.cell? ⟨b, off + i * C.size + j, none⟩ = some u
section
variable {α : Type} {C : RowC α} {l : List α} {w : World} {v : Value}
theorem RdL.shape (h : RdL C v l w) : ∃ ao cap, v = .slice ao l.length cap ∧ l.length ≤ 9223372036854775807 := by obtain ⟨ao, cap, h1, h2, _⟩ := h; exact ⟨ao, cap, h1, h2⟩
theorem RdL.get {ao : Option Addr} {n cap i : Nat} {a : α} (h : RdL C (.slice ao n cap) l w) (ha : l[i]? = some a) : ∃ b off, ao = some ⟨b, off, none⟩ ∧ ∀ (j : Nat) (u : Value), (C.enc a)[j]? = some u → w.cell? ⟨b, off + i * C.size + j, none⟩ = some u := by
  obtain ⟨ao', cap', h1, _, h3⟩ := h
  cases h1
  exact h3 i a ha
theorem RdL.nil (C : RowC α) (w : World) : RdL C (.slice none 0 0) [] w := ⟨none, 0, rfl, by simp, by simp⟩
theorem RdL.lenOf {P : Program} (h : RdL C v l w) : ∀ w1, (Builtin.lenOf v).run P w1 = .ok l.length w1 := by
  obtain ⟨ao, cap, rfl, _⟩ := h.shape
  exact lenOf_slice _ _ _
theorem RdL.isNil {n cap : Nat} (h : RdL C (.slice none n cap) l w) : l = [] := by
  cases l with
  | nil => rfl
  | cons x l => obtain ⟨b, off, h1, _⟩ := h.get (i := 0) (a := x) rfl; cases h1
theorem RdL.first {P : Program} (h : RdL C v l w) : ∀ w1 : World, w1.heap = w.heap → (Builtin.firstCells C.size l.length v).run P w1 = .ok (C.cells l).toArray w1 := by
  obtain ⟨ao, cap, rfl, _⟩ := h.shape
  intro w1 hw
  cases hl : l with
  | nil => cases ao <;> simp [Builtin.firstCells, RowC.cells, loadCells, loadCellsFrom]
  | cons x l' =>
    obtain ⟨b, off, rfl, _⟩ := h.get (i := 0) (a := x) (by rw [hl]; rfl)
    rw [← hl]
    simp only [Builtin.firstCells]
    have := run_loadCells_list (P := P) w1 ⟨b, off, none⟩ (C.cells l) (fun j v hv => by
      rw [addr_add]
      have hjl := (List.getElem?_eq_some_iff.1 hv).1
      rw [C.cells_len] at hjl
      have hq : j / C.size < l.length := Nat.div_lt_of_lt_mul (by rw [Nat.mul_comm]; exact hjl)
      have ha : l[j / C.size]? = some l[j / C.size] := List.getElem?_eq_getElem hq
      obtain ⟨b2, o2, e, hc⟩ := h.get ha
      cases e
      have hr := Nat.mod_lt j C.pos
      have hm : j / C.size * C.size + j % C.size = j := by have := Nat.div_add_mod j C.size; rw [Nat.mul_comm]; exact this
      have hu : (C.enc l[j / C.size])[j % C.size]? = some v := by
        have h1 := RowC.cells_at (C := C) ha
        rw [← h1, List.getElem?_take, if_pos hr, List.getElem?_drop, hm]; exact hv
      have := hc _ _ hu
      rw [World.cell?_of_block (w := w) (by rw [hw])]
      rw [← this, Nat.add_assoc, hm])
    rw [C.cells_len] at this
    exact this
theorem Sat.rd {As : List Th} (hS : Sat w As) (i : Nat) (hi : As[i]? = some (rowT C v l)) (hl : l.length ≤ 9223372036854775807) : RdL C v l w := by
  obtain ⟨ao, cap, rfl, _⟩ := hS.own_shape i hi
  refine ⟨ao, cap, rfl, hl, fun k a ha => ?_⟩
  obtain ⟨b, cap', hv, _⟩ := hS.own_at i hi (by have := (List.getElem?_eq_some_iff.1 ha).1; omega)
  cases hv
  exact ⟨b, 0, rfl, fun j u hu => by rw [Nat.zero_add]; exact hS.ocell i hi rfl (RowC.cells_get ha hu)⟩
theorem ent_row {v : Value} {l : List α} (hl : l.length ≤ 9223372036854775807) : Ent (rowT C v l) (RdL C v l) := fun {w G} h =>
  Sat.rd (As := [rowT C v l]) (w := w) ⟨G, G, fun _ => False, by simp, fun _ _ h => h, h, rfl⟩ 0 rfl hl
end
section
variable {P : Program} {n : Nat} {ops : Array Oper} {Q : Exit → Act → World → Prop} {rest : List Oper} {L : Env} {w : World} {d : Nat} {ty : TypeId} {pos : String} {aft : Array Edge}
variable {α : Type} {C : RowC α} {l : List α} {v : Value} {a : α} {As : List Th}
/-- &x[j] -/
theorem wl_rowIdx (C : RowC α) (i j : Nat) (hS : Sat w As) {x y : Operand} {t : Nat} {k : IntKind} {q : Int} (hi : As[i]? = some (rowT C v l)) (hx : look L x = some v) (hy : look L y = some (.int k q)) (hq : q = (j : Int)) (ha : l[j]? = some a) (hs : elemSz P t = some C.size) (hd : Nat.blt d n = true)
    (hk : ∀ b cap, v = .slice (some ⟨b, 0, none⟩) l.length cap → wl P n ops Q rest ((d, ptrV b (j * C.size)) :: L) w) : wl P n ops Q (⟨some d, .indexAddr t x y, ty, pos, aft, none⟩ :: rest) L w :=
  wl_indexO i j hS hi hx hy hq (List.getElem?_eq_some_iff.1 ha).1 hs hd hk
/-- a struct of an owned row -/
theorem wl_rowLoadA (i j : Nat) (hS : Sat w As) {x : Operand} {t b cap m : Nat} {vs : List Value} (hi : As[i]? = some (rowT C v l)) (hv : v = .slice (some ⟨b, 0, none⟩) m cap) (hx : look L x = some (ptrV b (j * C.size))) (ha : l[j]? = some a) (hg : aggB P t = some true) (hs : szOf P t = some C.size) (hvs : C.enc a = vs) (hd : Nat.blt d n = true)
    (hk : wl P n ops Q rest ((d, .agg vs.toArray) :: L) w) : wl P n ops Q (⟨some d, .load t x, ty, pos, aft, none⟩ :: rest) L w := by
  subst hvs
  exact wl_loadO i hS hi hv hx hg hs (RowC.cells_at ha) (C.len a) hd hk
/-- a cell of an element of an owned row -/
theorem wl_rowLoad (i j o : Nat) (hS : Sat w As) {x : Operand} {t b cap m q : Nat} {u : Value} (hi : As[i]? = some (rowT C v l)) (hv : v = .slice (some ⟨b, 0, none⟩) m cap) (hx : look L x = some (ptrV b q)) (hq : q = j * C.size + o) (ha : l[j]? = some a) (hg : aggB P t = some false) (hu : (C.enc a)[o]? = some u) (hd : Nat.blt d n = true)
    (hk : wl P n ops Q rest ((d, u) :: L) w) : wl P n ops Q (⟨some d, .load t x, ty, pos, aft, none⟩ :: rest) L w := by
  subst hq
  exact wl_load hx hg (hS.ocell i hi hv (RowC.cells_get ha hu)) hd hk
/-- the same, the row's value written out -/
theorem ev_rowLoad0 (C : RowC α) (i j o : Nat) (hS : Sat w As) {x : Operand} {t b cap m : Nat} {u : Value} {a : α} {l : List α} (hi : As[i]? = some (rowT C (.slice (some ⟨b, 0, none⟩) m cap) l)) (ha : l[j]? = some a) (hg : aggB P t = some false) (hx : look L x = some (ptrV b (0 + j * C.size + o))) (hu : (C.enc a)[o]? = some u) : Ev P L w ⟨some d, .load t x, ty, pos, aft, none⟩ u := by
  refine ev_load hx hg ?_
  rw [Nat.zero_add]
  exact hS.ocell i hi rfl (RowC.cells_get ha hu)
/-- an element is stored into an owned row -/
theorem wl_rowStore (i j : Nat) (a' : α) (hS : Sat w As) {x y : Operand} {t b cap m' : Nat} {u : Value} (hi : As[i]? = some (rowT C v l)) (hv : v = .slice (some ⟨b, 0, none⟩) m' cap) (hx : look L x = some (ptrV b (j * C.size))) (hy : look L y = some u) (hs : szOf P t = some C.size) (hu : u.cells.toList = C.enc a') (hj : j < l.length)
    (hk : ∀ w', Sat w' (As.set i (rowT C v (l.set j a'))) → wl P n ops Q rest L w') : wl P n ops Q (⟨none, .store t x y, ty, pos, aft, none⟩ :: rest) L w := by
  have hfit : j * C.size + C.size ≤ (C.cells l).length := by
    rw [C.cells_len]
    have := Nat.mul_le_mul_right C.size (show j + 1 ≤ l.length from hj)
    rw [Nat.add_mul] at this; omega
  refine wl_storeO i hS hi hv hx hy hs (by rw [← Array.length_toList, hu, C.len]) (by rw [hu]; exact C.one a') hfit (RowC.cells_set hu hj) ?_
  intro w' h
  refine hk w' ?_
  show Sat w' (As.set i (ownT v (l.set j a').length C.size (C.cells (l.set j a'))))
  rw [List.length_set]
  exact h
/-- a cell of an element is stored into an owned row -/
theorem wl_rowStoreF (i j o : Nat) (a' : α) (hS : Sat w As) {x y : Operand} {t b cap m' q : Nat} {u : Value} (hi : As[i]? = some (rowT C v l)) (hv : v = .slice (some ⟨b, 0, none⟩) m' cap) (hx : look L x = some (ptrV b q)) (hq : q = j * C.size + o) (hy : look L y = some u) (hs : szOf P t = some 1) (ha : l[j]? = some a) (h1 : u.cells.toList = [u]) (ho : o < C.size) (hu : (C.enc a).set o u = C.enc a') (h1' : u.oneCell' = true)
    (hk : ∀ w', Sat w' (As.set i (rowT C v (l.set j a'))) → wl P n ops Q rest L w') : wl P n ops Q (⟨none, .store t x y, ty, pos, aft, none⟩ :: rest) L w := by
  subst hq
  have hj := (List.getElem?_eq_some_iff.1 ha).1
  have hfit : j * C.size + C.size ≤ (C.cells l).length := by
    rw [C.cells_len]
    have := Nat.mul_le_mul_right C.size (show j + 1 ≤ l.length from hj)
    rw [Nat.add_mul] at this; omega
  have e : splice (C.cells l) (j * C.size + o) u.cells.toList = C.cells (l.set j a') := by
    rw [h1, ← RowC.cells_set (C := C) hu hj]
    have hat := RowC.cells_at (C := C) ha
    have hl := C.len a
    generalize hX : C.cells l = X at hat hfit ⊢
    apply List.ext_getElem?
    intro k
    have hA : ∀ k, k < C.size → (C.enc a)[k]? = X[j * C.size + k]? := by
      intro k hk
      rw [← hat, List.getElem?_take, if_pos hk, List.getElem?_drop]
    simp only [splice, List.length_cons, List.length_nil, List.length_set, hl]
    have hT : (X.take (j * C.size)).length = j * C.size := by rw [List.length_take]; omega
    have hT2 : (X.take (j * C.size + o)).length = j * C.size + o := by rw [List.length_take]; omega
    by_cases h2 : k < j * C.size
    · rw [List.append_assoc, List.getElem?_append_left (by omega), List.append_assoc, List.getElem?_append_left (by omega), List.getElem?_take, List.getElem?_take, if_pos (by omega), if_pos h2]
    · by_cases h3 : k < j * C.size + C.size
      · rw [List.append_assoc (X.take (j * C.size)), List.getElem?_append_right (l₁ := X.take (j * C.size)) (by omega), hT, List.getElem?_append_left (l₁ := (C.enc a).set o u) (by simp [hl]; omega), List.getElem?_set]
        by_cases h4 : o = k - j * C.size
        · rw [if_pos h4, if_pos (by omega), List.append_assoc, List.getElem?_append_right (by omega), hT2, show k - (j * C.size + o) = 0 by omega]; rfl
        · rw [if_neg h4, hA _ (by omega), show j * C.size + (k - j * C.size) = k by omega]
          by_cases h5 : k < j * C.size + o
          · rw [List.append_assoc, List.getElem?_append_left (by omega), List.getElem?_take, if_pos h5]
          · rw [List.append_assoc, List.getElem?_append_right (by omega), hT2, List.getElem?_append_right (by simp; omega), List.getElem?_drop]
            congr 1; simp; omega
      · rw [List.append_assoc, List.getElem?_append_right (by omega), hT2, List.getElem?_append_right (by simp; omega), List.getElem?_drop, List.append_assoc, List.getElem?_append_right (by omega), hT, List.getElem?_append_right (by simp [hl]; omega), List.getElem?_drop]
        congr 1; simp [hl]; omega
  refine wl_storeO i hS hi hv hx hy hs (by rw [← Array.length_toList, h1]; rfl) (by rw [h1]; simp [allOne, h1']) (by omega) e ?_
  intro w' h
  refine hk w' ?_
  show Sat w' (As.set i (ownT v (l.set j a').length C.size (C.cells (l.set j a'))))
  rw [List.length_set]
  exact h
/-- []T{..} -/
theorem wl_rowBuild (C : RowC α) (l : List α) (hS : Sat w As) {t e len : Nat} {z : Value} {parts : List (Nat × Operand)} {vs : List Value} (hx : looks L (parts.map (·.2)) = some vs) (hu : P.underlying t = some (.slice e)) (hi : (P.info? e).map (fun i => (i.zero, i.size)) = some (some z, C.size)) (hlen : Nat.ble (len * C.size) 1000 = true) (hzs : z.cells.size = C.size)
    (hok : fillOk (len * C.size) ((parts.map (·.1)).map fun i => (i * C.size, C.size)) vs = true) (hl : l.length = len) (he : fillL (List.replicate len z.cells.toList).flatten ((parts.map (·.1)).map fun i => (i * C.size, C.size)) vs = C.cells l) (hd : Nat.blt d n = true)
    (hk : ∀ b w', Sat w' (rowT C (.slice (some ⟨b, 0, none⟩) len len) l :: As) → wl P n ops Q rest ((d, .slice (some ⟨b, 0, none⟩) len len) :: L) w') : wl P n ops Q (⟨some d, .buildSlice t len parts.toArray, ty, pos, aft, none⟩ :: rest) L w := by
  refine wl_buildSlice hS hx hu hi hlen hzs hok hd ?_
  intro b w' h
  exact hk b w' (h.row_cast hl.symm rfl he)
/-- append(x, y...), x an owned row, y read -/
theorem wl_rowApp (C : RowC α) (i : Nat) {l2 : List α} (hS : Sat w As) {t t2 e bytes : Nat} {s x : Operand} {z xv : Value} {d2 : TypeDesc} (hi : As[i]? = some (rowT C v l)) (hs : look L s = some v) (hx : look L x = some xv) (hr : RdL C xv l2 w) (hu : P.underlying t = some (.slice e)) (hu2 : P.underlying t2 = some d2) (hd2 : ∀ k, d2 ≠ .int k)
    (hif : (P.info? e).map (fun i => (i.zero, i.size, i.bytes)) = some (some z, C.size, bytes)) (hz : z.cells.size = C.size) (hb : (l.length + l2.length) * bytes ≤ 140737488355328) (hd : Nat.blt d n = true) (hm : l.length + l2.length ≤ 9223372036854775807)
    (hk : ∀ v' w', Sat w' (As.set i (rowT C v' (l ++ l2))) → wl P n ops Q rest ((d, v') :: L) w') : wl P n ops Q (⟨some d, .call ⟨.builtin .append, #[s, x], #[t, t2]⟩, ty, pos, aft, none⟩ :: rest) L w := by
  refine wl_append i hS hi hs hx hu hu2 hd2 hif hz C.pos hr.lenOf hr.first (C.cells_len l2) (C.cells_one l2) hb hm hd ?_
  intro v' w' h
  refine hk v' w' ?_
  show Sat w' (As.set i (ownT v' (l ++ l2).length C.size (C.cells (l ++ l2))))
  rw [List.length_append, ← C.cells_app]
  exact h
end
/-! ### results that lie in cells -/
def resRun (tmps : Array Value) : ResultVar → Sem Value
  | .tmp t => pure (tmps.getD t undef)
  | .cell a t => do loadVar t (← asAddr (tmps.getD a undef))
def resOk (P : Program) (n : Nat) (L : Env) (w : World) (r : ResultVar) (v : Value) : Prop := ∀ a, Fr n L a → (resRun a.tmps r).run P w = .ok v w
section
variable {P : Program} {n : Nat} {L : Env} {w : World} {Q : Exit → Act → World → Prop}
theorem resT {t : Nat} {v : Value} (h : eget L t = some v) : resOk P n L w (.tmp t) v := fun a ha => by
  have := ha.get t v h; simp [resRun, this]
theorem resC {x t b o : Nat} {v : Value} (h : eget L x = some (ptrV b o)) (ha : aggB P t = some false) (hc : w.cell? ⟨b, o, none⟩ = some v) : resOk P n L w (.cell x t) v := fun a hf => by
  have := hf.get x _ h; simp [resRun, this, asAddr, loadVar, aggB_false ha, load, Sem.run, hc]
theorem results_eq (fn : Func) (tmps : Array Value) : results fn tmps = (do let vs ← fn.results.mapM (resRun tmps); pure (if h : vs.size = 1 then vs[0] else .tuple vs)) := by
  have e : (resRun tmps) = (fun | .tmp t => pure (tmps.getD t undef) | .cell a t => do loadVar t (← asAddr (tmps.getD a undef)) : ResultVar → Sem Value) := by
    funext r; cases r <;> rfl
  rw [e]; rfl
end
/-! ### rows of bytes -/
def byC : RowC UInt8 := ⟨fun c => [.int .u8 (c.toNat : Int)], 1, by decide, fun _ => rfl, fun _ => rfl⟩
theorem byC_cells (l : List UInt8) : byC.cells l = bytesV l := by
  induction l with
  | nil => rfl
  | cons c l ih => show [_] ++ byC.cells l = _; rw [ih]; rfl
section
variable {P : Program} {n : Nat} {ops : Array Oper} {Q : Exit → Act → World → Prop} {rest : List Oper} {L : Env} {w : World} {d : Nat} {ty : TypeId} {pos : String} {aft : Array Edge} {As : List Th}
/-- string(x), x a row of bytes -/
theorem ev_rowStr (i : Nat) (hS : Sat w As) {x : Operand} {sT dT e : Nat} {v : Value} {l : List UInt8} (hi : As[i]? = some (rowT byC v l)) (hx : look L x = some v) (hs : P.underlying sT = some (.slice e)) (he : P.underlying e = some (.int .u8)) (hd : P.underlying dT = some .string) : Ev P L w ⟨some d, .convert sT dT x, ty, pos, aft, none⟩ (strV l) := fun ρ hρ => by
  obtain ⟨foot, hown⟩ := hS.own i hi
  obtain ⟨hl, ⟨rfl, h0, rfl⟩ | ⟨b, cap, sp, rfl, hc, hb, hlen, rfl⟩⟩ := hown
  · have hl0 : l = [] := List.eq_nil_of_length_eq_zero h0
    subst hl0
    simp [execOp, hρ _ _ hx, run_convert_bytes_string w sT dT e none 0 0 hs he hd, Conv.bytesToString]
    rfl
  · refine ev_strB i hS l hi rfl hx hs he hd ?_ rfl ρ hρ
    rw [List.drop_zero, byC_cells, List.take_of_length_le (by rw [bytesV_length]; exact Nat.le_refl _)]
theorem wl_rowStr (i : Nat) (hS : Sat w As) {x : Operand} {sT dT e : Nat} {v : Value} {l : List UInt8} (hi : As[i]? = some (rowT byC v l)) (hx : look L x = some v) (hs : P.underlying sT = some (.slice e)) (he : P.underlying e = some (.int .u8)) (hd : P.underlying dT = some .string) (hdd : Nat.blt d n = true) (hk : wl P n ops Q rest ((d, strV l) :: L) w) : wl P n ops Q (⟨some d, .convert sT dT x, ty, pos, aft, none⟩ :: rest) L w :=
  wl_val hdd (ev_rowStr i hS hi hx hs he hd) hk
end
theorem Ev.gd {P : Program} {L : Env} {w : World} {d : Option Nat} {op : Op} {ty : TypeId} {pos : String} {aft : Array Edge} {gd : Option (Nat × Bool)} {v : Value} (h : Ev P L w ⟨d, op, ty, pos, aft, none⟩ v) : Ev P L w ⟨d, op, ty, pos, aft, gd⟩ v := h
/-- a slice that is read, whose elements say more of the memory -/
def RdX {α : Type} (enc : α → List Value) (size : Nat) (φ : α → World → Prop) (v : Value) (l : List α) (w : World) : Prop := ∃ ao cap, v = .slice ao l.length cap ∧ l.length ≤ 9223372036854775807 ∧ ∀ (i : Nat) (a : α), l[i]? = some a →
  (∃ b off, ao = some ⟨b, off, none⟩ ∧ ∀ (j : Nat) (u : Value), (enc a)[j]? = some u → w.cell? ⟨b, off + i * size + j, none⟩ = some u) ∧ φ a w
section
variable {α : Type} {enc : α → List Value} {size : Nat} {φ : α → World → Prop} {l : List α} {w : World} {v : Value}
theorem RdX.shape (h : RdX enc size φ v l w) : ∃ ao cap, v = .slice ao l.length cap ∧ l.length ≤ 9223372036854775807 := by obtain ⟨ao, cap, h1, h2, _⟩ := h; exact ⟨ao, cap, h1, h2⟩
theorem RdX.get {ao : Option Addr} {n cap i : Nat} {a : α} (h : RdX enc size φ (.slice ao n cap) l w) (ha : l[i]? = some a) :
    (∃ b off, ao = some ⟨b, off, none⟩ ∧ ∀ (j : Nat) (u : Value), (enc a)[j]? = some u → w.cell? ⟨b, off + i * size + j, none⟩ = some u) ∧ φ a w := by
  obtain ⟨ao', cap', h1, _, h3⟩ := h
  cases h1
  exact h3 i a ha
theorem RdX.cells {b off n cap i : Nat} {a : α} (h : RdX enc size φ (.slice (some ⟨b, off, none⟩) n cap) l w) (ha : l[i]? = some a) : ∀ (j : Nat) (u : Value), (enc a)[j]? = some u → w.cell? ⟨b, off + i * size + j, none⟩ = some u := by
  obtain ⟨⟨b2, o2, e, hc⟩, _⟩ := h.get ha
  cases e; exact hc
end
end Go.Proofs.YtnicmcdeoimhlaaGreat.M
/- More rules: maps with string keys, delete, len of a map, nil maps, array values, interface calls; things that lie below a block. Conditions: each rule's own hypotheses. -/
namespace Go.Proofs.YtnicmcdeoimhlaaGreat.M
open Go.RowKit
/-- how many keys a map has -/
def Card {κ : Type} (f : κ → Option Value) (n : Nat) : Prop := ∃ ks : List κ, ks.Nodup ∧ ks.length = n ∧ ∀ k, f k ≠ none ↔ k ∈ ks
theorem Card.zero {κ : Type} {f : κ → Option Value} {n : Nat} (h : Card f n) : n = 0 ↔ ∀ k, f k = none := by
  obtain ⟨ks, _, h2, h3⟩ := h
  constructor
  · intro h0 k
    have : ks = [] := List.eq_nil_of_length_eq_zero (by omega)
    subst this
    by_cases hq : f k = none
    · exact hq
    · exact absurd ((h3 k).1 hq) (by simp)
  · intro h
    cases ks with
    | nil => simpa using h2.symm
    | cons k ks => exact absurd (h k) ((h3 k).2 (by simp))
theorem Card.same {κ : Type} {f g : κ → Option Value} {n m : Nat} (h : Card f n) (h' : Card g m) (e : ∀ k, f k = none ↔ g k = none) : n = m := by
  obtain ⟨ks, h1, h2, h3⟩ := h
  obtain ⟨js, g1, g2, g3⟩ := h'
  have s1 : ∀ x ∈ ks, x ∈ js := fun x hx => (g3 x).1 fun q => ((h3 x).2 hx) ((e x).2 q)
  have s2 : ∀ x ∈ js, x ∈ ks := fun x hx => (h3 x).1 fun q => ((g3 x).2 hx) ((e x).1 q)
  have l1 := List.Nodup.length_le_of_subset h1 s1
  have l2 := List.Nodup.length_le_of_subset g1 s2
  omega
section
variable {κ : Type} {kv : κ → Value}
variable {P : Program} {n : Nat} {ops : Array Oper} {Q : Exit → Act → World → Prop} {rest : List Oper} {L : Env} {w : World} {d : Nat} {ty : TypeId} {pos : String} {aft : Array Edge} {As : List Th}
/-- delete(m, k) -/
theorem wl_delete {mt t2 kt et : TypeId} {x y : Operand} {b : Nat} {f : κ → Option Value} {k : κ} (i : Nat) (hS : Sat w As) (K : KeyOk P kt kv) (hm : P.underlying mt = some (.map kt et)) (hi : As[i]? = some (mapT kv b f)) (hx : look L x = some (.map (some b))) (hy : look L y = some (kv k)) {dst : Option Nat} (hd : dOk n dst = true)
    (hk : ∀ w', Sat w' (As.set i (mapT kv b (upd f k none))) → wl P n ops Q rest (pd dst (.tuple #[]) L) w') : wl P n ops Q (⟨dst, .call ⟨.builtin .delete, #[x, y], #[mt, t2]⟩, ty, pos, aft, none⟩ :: rest) L w := by
  obtain ⟨es, c, h1, h2⟩ := hS.map i hi
  refine wl_does rfl (by cases dst <;> exact hd) (fun a ha => does_delete mt t2 x y rfl K hm h1 (ha.eval hx) (ha.eval hy)) ?_
  rintro _ w' ⟨rfl, es', hes, h3, h4, _⟩
  refine hk w' (hS.map_set i hi h3 ?_ h4)
  intro j u
  by_cases hj : j = k
  · subst hj
    rw [upd_self]
    constructor
    · intro e; cases e
    · rintro ⟨e, he, hke, _⟩; exact absurd hke ((hes e).1 he).2
  · rw [upd_ne hj, h2 j u]
    constructor
    · rintro ⟨e, he, hke, hv⟩
      exact ⟨e, (hes e).2 ⟨he, fun q => hj (K.inj _ _ (hke.symm.trans q))⟩, hke, hv⟩
    · rintro ⟨e, he, hke, hv⟩
      exact ⟨e, ((hes e).1 he).1, hke, hv⟩
end
def byteV (c : UInt8) : Value := .int .u8 (c.toNat : Int)
section
variable {P : Program} {n : Nat} {ops : Array Oper} {Q : Exit → Act → World → Prop} {rest : List Oper} {L : Env} {w : World} {d : Nat} {ty : TypeId} {pos : String} {aft : Array Edge} {As : List Th}
end
/-! ### what lies below a block -/
end Go.Proofs.YtnicmcdeoimhlaaGreat.M
/- Rules for shifts and for | of numbers whose bits lie apart. Conditions: each rule's own hypotheses. -/
namespace Go.Proofs.YtnicmcdeoimhlaaGreat.M
open Go.RowKit
section
variable {P : Program} {n : Nat} {ops : Array Oper} {Q : Exit → Act → World → Prop} {rest : List Oper} {L : Env} {w : World} {d : Nat} {ty : TypeId} {pos : String} {aft : Array Edge} {t t2 : TypeId} {x y : Operand} {a b : Int} {yk : IntKind}
/-- a byte as a number, a number as a byte -/
theorem ev_convU8 {sT dT : TypeId} {ds : TypeDesc} {c : UInt8} (hs : P.underlying sT = some ds) (ht : P.underlying dT = some (.int .i64)) (hx : look L x = some (.int .u8 (c.toNat : Int))) : Ev P L w ⟨some d, .convert sT dT x, ty, pos, aft, none⟩ (.int .i64 (c.toNat : Int)) :=
  ev_convII hs ht hx (by have := c.toNat_lt; exact wrap64 (by omega) (by omega))
theorem wl_convU8 {sT dT : TypeId} {ds : TypeDesc} {c : UInt8} (hs : P.underlying sT = some ds) (ht : P.underlying dT = some (.int .i64)) (hx : look L x = some (.int .u8 (c.toNat : Int))) (hd : Nat.blt d n = true) (hk : wl P n ops Q rest ((d, .int .i64 (c.toNat : Int)) :: L) w) : wl P n ops Q (⟨some d, .convert sT dT x, ty, pos, aft, none⟩ :: rest) L w := wl_val hd (ev_convU8 hs ht hx) hk
theorem wrap_u8 (m : Nat) : IntKind.u8.wrap (m : Int) = ((UInt8.ofNat m).toNat : Int) := by
  simp [IntKind.wrap, IntKind.signed, IntKind.bits]
theorem ev_convToU8 {sT dT : TypeId} {ds : TypeDesc} {k : IntKind} {a : Int} (m : Nat) (hs : P.underlying sT = some ds) (ht : P.underlying dT = some (.int .u8)) (hx : look L x = some (.int k a)) (ha : a = (m : Int)) : Ev P L w ⟨some d, .convert sT dT x, ty, pos, aft, none⟩ (.int .u8 ((UInt8.ofNat m).toNat : Int)) :=
  ev_convII hs ht hx (by rw [ha]; exact wrap_u8 m)
theorem wl_convToU8 {sT dT : TypeId} {ds : TypeDesc} {k : IntKind} {a : Int} (m : Nat) (hs : P.underlying sT = some ds) (ht : P.underlying dT = some (.int .u8)) (hx : look L x = some (.int k a)) (ha : a = (m : Int)) (hd : Nat.blt d n = true) (hk : wl P n ops Q rest ((d, .int .u8 ((UInt8.ofNat m).toNat : Int)) :: L) w) : wl P n ops Q (⟨some d, .convert sT dT x, ty, pos, aft, none⟩ :: rest) L w := wl_val hd (ev_convToU8 m hs ht hx ha) hk
end
end Go.Proofs.YtnicmcdeoimhlaaGreat.M
/- world: what a world is, in plain data, and how it lies in memory. -/
namespace Go.Proofs.YtnicmcdeoimhlaaGreat
open Go.RowKit M
abbrev Bs := List UInt8
structure WS where
  cells : Bs → Bs
  objs : Bs → Int → Option Bs
  logs : Bs → Bs
  time : Int
def zero64 : Bs := List.replicate 64 0
def pageOf (o : Option Bs) : Bs := o.getD zero64
structure PagesOk (O : Bs → Int → Option Bs) : Prop where
  ok : ∀ n p s, O n p = some s → s.length = 64 ∧ s ≠ zero64 ∧ 0 ≤ p ∧ p < 256
theorem PagesOk.len {O : Bs → Int → Option Bs} (h : PagesOk O) (n : Bs) (p : Int) : (pageOf (O n p)).length = 64 := by
  unfold pageOf
  cases hq : O n p with
  | none => rfl
  | some s => exact (h.ok n p s hq).1
structure ObjL (L : List (Bs × Nat)) (O : Bs → Int → Option Bs) : Prop where
  nodup : (L.map (·.1)).Nodup
  has : ∀ n, n ∈ L.map (·.1) ↔ ∃ p, O n p ≠ none
section
variable {w : World} {As : List Th}
end
def setO (O : Bs → Int → Option Bs) (n : Bs) (p : Int) (s : Bs) : Bs → Int → Option Bs := fun m q => if m = n ∧ q = p then (if s = zero64 then none else some s) else O m q
theorem PagesOk.set {O : Bs → Int → Option Bs} (h : PagesOk O) {n : Bs} {p : Int} {s : Bs} (hs : s.length = 64) (hp : 0 ≤ p ∧ p < 256) : PagesOk (setO O n p s) := by
  refine ⟨fun m q t ht => ?_⟩
  unfold setO at ht
  split at ht
  · rename_i hc
    split at ht
    · cases ht
    · rename_i hz; cases ht; exact ⟨hs, hz, by omega, by omega⟩
  · exact h.ok m q t ht
end Go.Proofs.YtnicmcdeoimhlaaGreat
/- The shelf's contracts as contracts of things: fresh copies of strings, sorting. Conditions: each one's own hypotheses. -/
namespace Go.Proofs.YtnicmcdeoimhlaaGreat.M
open Go.RowKit Go.Sort
def stC : RowC (List UInt8) := ⟨fun s => [strV s], 1, by decide, fun _ => rfl, fun _ => rfl⟩
theorem Sat.belowAll {w w' : World} {As : List Th} (h : Sat w As) (hb : RowKit.Below w.heap.size w w') : Sat w' As := h.only ⟨hb.os, hb.tape, hb.output, hb.size, fun k hk _ => hb.block k hk⟩
theorem calls_below {P : Program} {f : Nat} {args : Array Value} {w : World} {v : Value} {As : List Th} (hS : Sat w As) (h : Calls P f args w fun e w' => e = .returned v ∧ RowKit.Below w.heap.size w w') : Calls P f args w (Ret fun u w' => u = v ∧ Sat w' As) :=
  h.mono fun e w' ⟨h1, h2⟩ => ⟨v, h1, rfl, hS.belowAll h2⟩
end Go.Proofs.YtnicmcdeoimhlaaGreat.M
/- Closed facts of the program: offsets, sizes, zero values. -/
namespace Go.Proofs.YtnicmcdeoimhlaaGreat
open Go.RowKit M
theorem ag_3 : aggB Tryz.prog 3 = some false := by kernel_rfl
theorem ag_4 : aggB Tryz.prog 4 = some false := by kernel_rfl
theorem ag_9 : aggB Tryz.prog 9 = some false := by kernel_rfl
theorem ag_24 : aggB Tryz.prog 24 = some false := by kernel_rfl
theorem ag_28 : aggB Tryz.prog 28 = some false := by kernel_rfl
theorem ag_29 : aggB Tryz.prog 29 = some false := by kernel_rfl
theorem ag_33 : aggB Tryz.prog 33 = some true := by kernel_rfl
theorem ag_34 : aggB Tryz.prog 34 = some false := by kernel_rfl
theorem ag_56 : aggB Tryz.prog 56 = some false := by kernel_rfl
theorem ag_57 : aggB Tryz.prog 57 = some false := by kernel_rfl
theorem ag_58 : aggB Tryz.prog 58 = some false := by kernel_rfl
theorem ag_60 : aggB Tryz.prog 60 = some false := by kernel_rfl
theorem ag_62 : aggB Tryz.prog 62 = some false := by kernel_rfl
theorem ag_70 : aggB Tryz.prog 70 = some false := by kernel_rfl
theorem ag_76 : aggB Tryz.prog 76 = some true := by kernel_rfl
theorem ag_77 : aggB Tryz.prog 77 = some false := by kernel_rfl
theorem ag_101 : aggB Tryz.prog 101 = some false := by kernel_rfl
theorem ag_106 : aggB Tryz.prog 106 = some false := by kernel_rfl
theorem ag_115 : aggB Tryz.prog 115 = some true := by kernel_rfl
theorem ag_121 : aggB Tryz.prog 121 = some true := by kernel_rfl
theorem asz_65 : allSz Tryz.prog 65 = true := by kernel_rfl
theorem asz_76 : allSz Tryz.prog 76 = true := by kernel_rfl
theorem asz_103 : allSz Tryz.prog 103 = true := by kernel_rfl
theorem asz_105 : allSz Tryz.prog 105 = true := by kernel_rfl
theorem asz_108 : allSz Tryz.prog 108 = true := by kernel_rfl
theorem asz_115 : allSz Tryz.prog 115 = true := by kernel_rfl
theorem asz_121 : allSz Tryz.prog 121 = true := by kernel_rfl
theorem cal_8 : callB Tryz.prog 8 = true := by kernel_rfl
theorem cal_9 : callB Tryz.prog 9 = true := by kernel_rfl
theorem cal_10 : callB Tryz.prog 10 = true := by kernel_rfl
theorem cal_11 : callB Tryz.prog 11 = true := by kernel_rfl
theorem cal_12 : callB Tryz.prog 12 = true := by kernel_rfl
theorem cal_16 : callB Tryz.prog 16 = true := by kernel_rfl
theorem cal_17 : callB Tryz.prog 17 = true := by kernel_rfl
theorem cal_18 : callB Tryz.prog 18 = true := by kernel_rfl
theorem cal_19 : callB Tryz.prog 19 = true := by kernel_rfl
theorem cal_20 : callB Tryz.prog 20 = true := by kernel_rfl
theorem cal_21 : callB Tryz.prog 21 = true := by kernel_rfl
theorem cal_24 : callB Tryz.prog 24 = true := by kernel_rfl
theorem cal_26 : callB Tryz.prog 26 = true := by kernel_rfl
theorem cal_27 : callB Tryz.prog 27 = true := by kernel_rfl
theorem cal_28 : callB Tryz.prog 28 = true := by kernel_rfl
theorem cal_29 : callB Tryz.prog 29 = true := by kernel_rfl
theorem cal_30 : callB Tryz.prog 30 = true := by kernel_rfl
theorem cal_31 : callB Tryz.prog 31 = true := by kernel_rfl
theorem cal_32 : callB Tryz.prog 32 = true := by kernel_rfl
theorem cal_33 : callB Tryz.prog 33 = true := by kernel_rfl
theorem cal_34 : callB Tryz.prog 34 = true := by kernel_rfl
theorem cal_35 : callB Tryz.prog 35 = true := by kernel_rfl
theorem cal_36 : callB Tryz.prog 36 = true := by kernel_rfl
theorem cal_37 : callB Tryz.prog 37 = true := by kernel_rfl
theorem cal_38 : callB Tryz.prog 38 = true := by kernel_rfl
theorem cal_39 : callB Tryz.prog 39 = true := by kernel_rfl
theorem cal_40 : callB Tryz.prog 40 = true := by kernel_rfl
theorem cal_41 : callB Tryz.prog 41 = true := by kernel_rfl
theorem cal_42 : callB Tryz.prog 42 = true := by kernel_rfl
theorem cal_43 : callB Tryz.prog 43 = true := by kernel_rfl
theorem cal_44 : callB Tryz.prog 44 = true := by kernel_rfl
theorem cal_45 : callB Tryz.prog 45 = true := by kernel_rfl
theorem cal_46 : callB Tryz.prog 46 = true := by kernel_rfl
theorem cal_47 : callB Tryz.prog 47 = true := by kernel_rfl
theorem cal_48 : callB Tryz.prog 48 = true := by kernel_rfl
theorem cal_49 : callB Tryz.prog 49 = true := by kernel_rfl
theorem cal_50 : callB Tryz.prog 50 = true := by kernel_rfl
theorem cal_51 : callB Tryz.prog 51 = true := by kernel_rfl
theorem cal_52 : callB Tryz.prog 52 = true := by kernel_rfl
theorem cal_55 : callB Tryz.prog 55 = true := by kernel_rfl
theorem cal_59 : callB Tryz.prog 59 = true := by kernel_rfl
theorem cal_60 : callB Tryz.prog 60 = true := by kernel_rfl
theorem cal_61 : callB Tryz.prog 61 = true := by kernel_rfl
theorem cal_62 : callB Tryz.prog 62 = true := by kernel_rfl
theorem cal_63 : callB Tryz.prog 63 = true := by kernel_rfl
theorem cal_64 : callB Tryz.prog 64 = true := by kernel_rfl
theorem cal_65 : callB Tryz.prog 65 = true := by kernel_rfl
theorem cal_66 : callB Tryz.prog 66 = true := by kernel_rfl
theorem cal_67 : callB Tryz.prog 67 = true := by kernel_rfl
theorem cal_68 : callB Tryz.prog 68 = true := by kernel_rfl
theorem cal_69 : callB Tryz.prog 69 = true := by kernel_rfl
theorem cal_70 : callB Tryz.prog 70 = true := by kernel_rfl
theorem cal_71 : callB Tryz.prog 71 = true := by kernel_rfl
theorem cal_72 : callB Tryz.prog 72 = true := by kernel_rfl
theorem cal_73 : callB Tryz.prog 73 = true := by kernel_rfl
theorem cal_74 : callB Tryz.prog 74 = true := by kernel_rfl
theorem cal_75 : callB Tryz.prog 75 = true := by kernel_rfl
theorem cal_76 : callB Tryz.prog 76 = true := by kernel_rfl
theorem cal_77 : callB Tryz.prog 77 = true := by kernel_rfl
theorem cal_78 : callB Tryz.prog 78 = true := by kernel_rfl
theorem cal_79 : callB Tryz.prog 79 = true := by kernel_rfl
theorem cal_80 : callB Tryz.prog 80 = true := by kernel_rfl
theorem cal_81 : callB Tryz.prog 81 = true := by kernel_rfl
theorem cal_82 : callB Tryz.prog 82 = true := by kernel_rfl
theorem cal_83 : callB Tryz.prog 83 = true := by kernel_rfl
theorem cal_88 : callB Tryz.prog 88 = true := by kernel_rfl
theorem cal_89 : callB Tryz.prog 89 = true := by kernel_rfl
theorem cal_90 : callB Tryz.prog 90 = true := by kernel_rfl
theorem cal_91 : callB Tryz.prog 91 = true := by kernel_rfl
theorem cal_92 : callB Tryz.prog 92 = true := by kernel_rfl
theorem cal_93 : callB Tryz.prog 93 = true := by kernel_rfl
theorem cal_94 : callB Tryz.prog 94 = true := by kernel_rfl
theorem cal_95 : callB Tryz.prog 95 = true := by kernel_rfl
theorem cal_96 : callB Tryz.prog 96 = true := by kernel_rfl
theorem cal_97 : callB Tryz.prog 97 = true := by kernel_rfl
theorem cal_101 : callB Tryz.prog 101 = true := by kernel_rfl
theorem cal_102 : callB Tryz.prog 102 = true := by kernel_rfl
theorem cal_103 : callB Tryz.prog 103 = true := by kernel_rfl
theorem cal_104 : callB Tryz.prog 104 = true := by kernel_rfl
theorem cal_105 : callB Tryz.prog 105 = true := by kernel_rfl
theorem cal_117 : callB Tryz.prog 117 = true := by kernel_rfl
theorem es_22 : elemSz Tryz.prog 22 = some 5 := by kernel_rfl
theorem es_28 : elemSz Tryz.prog 28 = some 1 := by kernel_rfl
theorem es_29 : elemSz Tryz.prog 29 = some 1 := by kernel_rfl
theorem es_44 : elemSz Tryz.prog 44 = some 1 := by kernel_rfl
theorem es_70 : elemSz Tryz.prog 70 = some 1 := by kernel_rfl
theorem es_101 : elemSz Tryz.prog 101 = some 65 := by kernel_rfl
theorem es_106 : elemSz Tryz.prog 106 = some 4 := by kernel_rfl
theorem fo_33_0 : fldOff Tryz.prog 33 0 = some 0 := by kernel_rfl
theorem fo_33_1 : fldOff Tryz.prog 33 1 = some 1 := by kernel_rfl
theorem fo_33_2 : fldOff Tryz.prog 33 2 = some 2 := by kernel_rfl
theorem fo_33_3 : fldOff Tryz.prog 33 3 = some 3 := by kernel_rfl
theorem fo_33_4 : fldOff Tryz.prog 33 4 = some 4 := by kernel_rfl
theorem fo_65_0 : fldOff Tryz.prog 65 0 = some 0 := by kernel_rfl
theorem fo_65_1 : fldOff Tryz.prog 65 1 = some 1 := by kernel_rfl
theorem fo_65_2 : fldOff Tryz.prog 65 2 = some 2 := by kernel_rfl
theorem fo_65_3 : fldOff Tryz.prog 65 3 = some 3 := by kernel_rfl
theorem fo_65_4 : fldOff Tryz.prog 65 4 = some 4 := by kernel_rfl
theorem fo_65_5 : fldOff Tryz.prog 65 5 = some 5 := by kernel_rfl
theorem fo_65_6 : fldOff Tryz.prog 65 6 = some 6 := by kernel_rfl
theorem fo_65_7 : fldOff Tryz.prog 65 7 = some 7 := by kernel_rfl
theorem fo_65_8 : fldOff Tryz.prog 65 8 = some 8 := by kernel_rfl
theorem fo_65_9 : fldOff Tryz.prog 65 9 = some 9 := by kernel_rfl
theorem fo_76_0 : fldOff Tryz.prog 76 0 = some 0 := by kernel_rfl
theorem fo_76_1 : fldOff Tryz.prog 76 1 = some 1 := by kernel_rfl
theorem fo_76_2 : fldOff Tryz.prog 76 2 = some 2 := by kernel_rfl
theorem fo_76_3 : fldOff Tryz.prog 76 3 = some 3 := by kernel_rfl
theorem fo_79_0 : fldOff Tryz.prog 79 0 = some 0 := by kernel_rfl
theorem fo_79_1 : fldOff Tryz.prog 79 1 = some 1 := by kernel_rfl
theorem fo_103_0 : fldOff Tryz.prog 103 0 = some 0 := by kernel_rfl
theorem fo_103_1 : fldOff Tryz.prog 103 1 = some 1 := by kernel_rfl
theorem fo_105_0 : fldOff Tryz.prog 105 0 = some 0 := by kernel_rfl
theorem fo_105_1 : fldOff Tryz.prog 105 1 = some 1 := by kernel_rfl
theorem fo_105_2 : fldOff Tryz.prog 105 2 = some 2 := by kernel_rfl
theorem fo_105_3 : fldOff Tryz.prog 105 3 = some 3 := by kernel_rfl
theorem fo_108_0 : fldOff Tryz.prog 108 0 = some 0 := by kernel_rfl
theorem fo_108_1 : fldOff Tryz.prog 108 1 = some 1 := by kernel_rfl
theorem fo_108_2 : fldOff Tryz.prog 108 2 = some 2 := by kernel_rfl
theorem fo_108_3 : fldOff Tryz.prog 108 3 = some 3 := by kernel_rfl
theorem fo_108_4 : fldOff Tryz.prog 108 4 = some 4 := by kernel_rfl
theorem fo_115_0 : fldOff Tryz.prog 115 0 = some 0 := by kernel_rfl
theorem fo_115_1 : fldOff Tryz.prog 115 1 = some 1 := by kernel_rfl
theorem fo_121_0 : fldOff Tryz.prog 121 0 = some 0 := by kernel_rfl
theorem fo_121_1 : fldOff Tryz.prog 121 1 = some 1 := by kernel_rfl
theorem fo_121_2 : fldOff Tryz.prog 121 2 = some 2 := by kernel_rfl
theorem fo_121_3 : fldOff Tryz.prog 121 3 = some 3 := by kernel_rfl
theorem fv_76_0 : fldVal Tryz.prog 76 0 = some (0, none) := by kernel_rfl
theorem fv_76_1 : fldVal Tryz.prog 76 1 = some (1, none) := by kernel_rfl
theorem fv_76_3 : fldVal Tryz.prog 76 3 = some (3, none) := by kernel_rfl
theorem ifo_3 : (Tryz.prog.info? 3).map (fun i => (i.zero, i.size, i.bytes)) = some (some (.int .i64 0), 1, 8) := by kernel_rfl
theorem ifo_4 : (Tryz.prog.info? 4).map (fun i => (i.zero, i.size, i.bytes)) = some (some (.bool false), 1, 1) := by kernel_rfl
theorem ifo_5 : (Tryz.prog.info? 5).map (fun i => (i.zero, i.size, i.bytes)) = some (some (.int .u8 0), 1, 1) := by kernel_rfl
theorem ifo_9 : (Tryz.prog.info? 9).map (fun i => (i.zero, i.size, i.bytes)) = some (some (.string ⟨#[]⟩), 1, 16) := by kernel_rfl
theorem ifo_115 : (Tryz.prog.info? 115).map (fun i => (i.zero, i.size, i.bytes)) = some (some (.agg #[(.bool false), (.int .u8 0), (.int .u8 0), (.int .u8 0), (.int .u8 0), (.int .u8 0), (.int .u8 0), (.int .u8 0), (.int .u8 0), (.int .u8 0), (.int .u8 0), (.int .u8 0), (.int .u8 0), (.int .u8 0), (.int .u8 0), (.int .u8 0), (.int .u8 0), (.int .u8 0), (.int .u8 0), (.int .u8 0), (.int .u8 0), (.int .u8 0), (.int .u8 0), (.int .u8 0), (.int .u8 0), (.int .u8 0), (.int .u8 0), (.int .u8 0), (.int .u8 0), (.int .u8 0), (.int .u8 0), (.int .u8 0), (.int .u8 0), (.int .u8 0), (.int .u8 0), (.int .u8 0), (.int .u8 0), (.int .u8 0), (.int .u8 0), (.int .u8 0), (.int .u8 0), (.int .u8 0), (.int .u8 0), (.int .u8 0), (.int .u8 0), (.int .u8 0), (.int .u8 0), (.int .u8 0), (.int .u8 0), (.int .u8 0), (.int .u8 0), (.int .u8 0), (.int .u8 0), (.int .u8 0), (.int .u8 0), (.int .u8 0), (.int .u8 0), (.int .u8 0), (.int .u8 0), (.int .u8 0), (.int .u8 0), (.int .u8 0), (.int .u8 0), (.int .u8 0), (.int .u8 0)]), 65, 65) := by kernel_rfl
theorem ifo_121 : (Tryz.prog.info? 121).map (fun i => (i.zero, i.size, i.bytes)) = some (some (.agg #[(.bool false), (.bool false), (.bool false), (.int .i64 0)]), 4, 16) := by kernel_rfl
theorem ifz_3 : (Tryz.prog.info? 3).map (fun i => (i.zero, i.size)) = some (some (.int .i64 0), 1) := by kernel_rfl
theorem ifz_5 : (Tryz.prog.info? 5).map (fun i => (i.zero, i.size)) = some (some (.int .u8 0), 1) := by kernel_rfl
theorem mix : Tryz.prog.follows .mixedOrders = true := by kernel_rfl
theorem pl_65_0_1_3_4_5_6_7_8 : structPl Tryz.prog 65 [0, 1, 3, 4, 5, 6, 7, 8] = some [(0, 1), (1, 1), (3, 1), (4, 1), (5, 1), (6, 1), (7, 1), (8, 1)] := by kernel_rfl
theorem pl_76_0_1_2 : structPl Tryz.prog 76 [0, 1, 2] = some [(0, 1), (1, 1), (2, 1)] := by kernel_rfl
theorem pl_76_0_1_3 : structPl Tryz.prog 76 [0, 1, 3] = some [(0, 1), (1, 1), (3, 1)] := by kernel_rfl
theorem pl_103_0 : structPl Tryz.prog 103 [0] = some [(0, 1)] := by kernel_rfl
theorem pl_105_0 : structPl Tryz.prog 105 [0] = some [(0, 1)] := by kernel_rfl
theorem pl_108_0_2_3_4 : structPl Tryz.prog 108 [0, 2, 3, 4] = some [(0, 1), (2, 1), (3, 1), (4, 1)] := by kernel_rfl
theorem pl_115_0 : structPl Tryz.prog 115 [0] = some [(0, 1)] := by kernel_rfl
theorem pl_121_ : structPl Tryz.prog 121 [] = some [] := by kernel_rfl
theorem pl_121_0_3 : structPl Tryz.prog 121 [0, 3] = some [(0, 1), (3, 1)] := by kernel_rfl
theorem sz_3 : szOf Tryz.prog 3 = some 1 := by kernel_rfl
theorem sz_4 : szOf Tryz.prog 4 = some 1 := by kernel_rfl
theorem sz_5 : szOf Tryz.prog 5 = some 1 := by kernel_rfl
theorem sz_9 : szOf Tryz.prog 9 = some 1 := by kernel_rfl
theorem sz_28 : szOf Tryz.prog 28 = some 1 := by kernel_rfl
theorem sz_33 : szOf Tryz.prog 33 = some 5 := by kernel_rfl
theorem sz_34 : szOf Tryz.prog 34 = some 1 := by kernel_rfl
theorem sz_57 : szOf Tryz.prog 57 = some 1 := by kernel_rfl
theorem sz_70 : szOf Tryz.prog 70 = some 1 := by kernel_rfl
theorem sz_76 : szOf Tryz.prog 76 = some 4 := by kernel_rfl
theorem sz_77 : szOf Tryz.prog 77 = some 1 := by kernel_rfl
theorem sz_115 : szOf Tryz.prog 115 = some 65 := by kernel_rfl
theorem sz_121 : szOf Tryz.prog 121 = some 4 := by kernel_rfl
theorem zr_3 : zeroOf Tryz.prog 3 = some (some (.int .i64 0)) := by kernel_rfl
theorem zr_5 : zeroOf Tryz.prog 5 = some (some (.int .u8 0)) := by kernel_rfl
theorem zr_28 : zeroOf Tryz.prog 28 = some (some (.slice none 0 0)) := by kernel_rfl
theorem zr_34 : zeroOf Tryz.prog 34 = some (some (.int .i64 0)) := by kernel_rfl
theorem zr_65 : zeroOf Tryz.prog 65 = some (some (.agg #[(.map none), (.map none), (.slice none 0 0), (.pointer none), (.pointer none), (.pointer none), (.int .i64 0), (.int .i64 0), (.int .i64 0), (.slice none 0 0)])) := by kernel_rfl
theorem zr_76 : zeroOf Tryz.prog 76 = some (some (.agg #[(.int .i64 0), (.int .i64 0), (.int .i64 0), (.string ⟨#[]⟩)])) := by kernel_rfl
theorem zr_79 : zeroOf Tryz.prog 79 = some (some (.agg #[(.pointer none), (.slice none 0 0)])) := by kernel_rfl
theorem zr_103 : zeroOf Tryz.prog 103 = some (some (.agg #[(.slice none 0 0), (.int .i64 0)])) := by kernel_rfl
theorem zr_105 : zeroOf Tryz.prog 105 = some (some (.agg #[(.slice none 0 0), (.int .i64 0), (.int .i64 0), (.int .i64 0)])) := by kernel_rfl
theorem zr_108 : zeroOf Tryz.prog 108 = some (some (.agg #[(.slice none 0 0), (.int .i64 0), (.map none), (.map none), (.map none)])) := by kernel_rfl
theorem zr_115 : zeroOf Tryz.prog 115 = some (some (.agg #[(.bool false), (.int .u8 0), (.int .u8 0), (.int .u8 0), (.int .u8 0), (.int .u8 0), (.int .u8 0), (.int .u8 0), (.int .u8 0), (.int .u8 0), (.int .u8 0), (.int .u8 0), (.int .u8 0), (.int .u8 0), (.int .u8 0), (.int .u8 0), (.int .u8 0), (.int .u8 0), (.int .u8 0), (.int .u8 0), (.int .u8 0), (.int .u8 0), (.int .u8 0), (.int .u8 0), (.int .u8 0), (.int .u8 0), (.int .u8 0), (.int .u8 0), (.int .u8 0), (.int .u8 0), (.int .u8 0), (.int .u8 0), (.int .u8 0), (.int .u8 0), (.int .u8 0), (.int .u8 0), (.int .u8 0), (.int .u8 0), (.int .u8 0), (.int .u8 0), (.int .u8 0), (.int .u8 0), (.int .u8 0), (.int .u8 0), (.int .u8 0), (.int .u8 0), (.int .u8 0), (.int .u8 0), (.int .u8 0), (.int .u8 0), (.int .u8 0), (.int .u8 0), (.int .u8 0), (.int .u8 0), (.int .u8 0), (.int .u8 0), (.int .u8 0), (.int .u8 0), (.int .u8 0), (.int .u8 0), (.int .u8 0), (.int .u8 0), (.int .u8 0), (.int .u8 0), (.int .u8 0)])) := by kernel_rfl
theorem zr_121 : zeroOf Tryz.prog 121 = some (some (.agg #[(.bool false), (.bool false), (.bool false), (.int .i64 0)])) := by kernel_rfl
end Go.Proofs.YtnicmcdeoimhlaaGreat
/- disk: what a disk is, in plain data, and how it lies in memory. -/
namespace Go.Proofs.YtnicmcdeoimhlaaGreat
open Go.RowKit M
abbrev Bytes := List UInt8
structure DS where
  F : Int → Bytes × Bytes
  Q : List (Int × Int)
  lost : Int
  down : Bool
  armed : Int
  keep : List Int
def setF (F : Int → Bytes × Bytes) (f : Int) (x : Bytes × Bytes) : Int → Bytes × Bytes := fun k => if k = f then x else F k
structure DInv (D : DS) : Prop where
  now : ∀ k, (D.F k).1.length ≤ 16777216
  last : ∀ k, (D.F k).2.length ≤ 16777216
  nodup : D.Q.Nodup
  secs : ∀ p ∈ D.Q, (0 ≤ p.1 ∧ p.1 < 16) ∧ 0 ≤ p.2 ∧ p.2 ≤ 262144
  lost : 0 ≤ D.lost ∧ D.lost ≤ 9223372036854775807
  armed : 0 ≤ D.armed ∧ D.armed ≤ 9223372036854775807
structure DL where
  bf : Nat
  bs : Nat
  qv : Value
end Go.Proofs.YtnicmcdeoimhlaaGreat
/- the reference of layer 3: how its disk lies in memory; plain facts. -/
namespace Go.Proofs.YtnicmcdeoimhlaaGreat
open Go.RowKit M
def inC : RowC Int := ⟨fun x => [intV x], 1, by decide, fun _ => rfl, fun _ => rfl⟩
/-- the file of a number: the first one in the list -/
def getR : List (Int × Bytes × Bytes) → Int → Bytes × Bytes
  | [], _ => ([], [])
  | x :: l, f => if x.1 = f then x.2 else getR l f
structure RInv (l : List (Int × Bytes × Bytes)) (D : DS) : Prop where
  inv : DInv D
  says : ∀ k, getR l k = D.F k
  num : ∀ x ∈ l, 0 ≤ x.1 ∧ x.1 < 16
  nodup : (l.map (·.1)).Nodup
structure RL where
  fv : Value
  qv : Value
  l : List (Int × Bytes × Bytes)
theorem getR_app {l m : List (Int × Bytes × Bytes)} {f : Int} (h : ∀ x ∈ l, x.1 ≠ f) : getR (l ++ m) f = getR m f := by
  induction l with
  | nil => rfl
  | cons x l ih => rw [List.cons_append, getR, if_neg (h x (by simp)), ih fun y hy => h y (by simp [hy])]
theorem getR_filter {l : List (Int × Bytes × Bytes)} {f k : Int} (h : k ≠ f) (m : List (Int × Bytes × Bytes)) (hm : getR m k = ([], [])) : getR (l.filter (fun x => decide (x.1 ≠ f)) ++ m) k = getR l k := by
  induction l with
  | nil => exact hm
  | cons x l ih =>
    by_cases e : x.1 = f
    · rw [List.filter_cons_of_neg (by simp [e]), ih, getR, if_neg (by omega)]
    · rw [List.filter_cons_of_pos (by simp [e]), List.cons_append, getR, getR, ih]
def putR (l : List (Int × Bytes × Bytes)) (x : Int × Bytes × Bytes) : List (Int × Bytes × Bytes) := l.filter (fun y => decide (y.1 ≠ x.1)) ++ [x]
theorem putR_says {l : List (Int × Bytes × Bytes)} {F : Int → Bytes × Bytes} (h : ∀ k, getR l k = F k) (x : Int × Bytes × Bytes) (k : Int) : getR (putR l x) k = setF F x.1 x.2 k := by
  unfold putR setF
  by_cases e : k = x.1
  · subst e
    rw [getR_app (fun y hy => by simpa using (List.mem_filter.1 hy).2), if_pos rfl]
    simp [getR]
  · rw [getR_filter e [x] (by rw [getR, if_neg (Ne.symm e)]; rfl), if_neg e]; exact h k
theorem RInv.put {l : List (Int × Bytes × Bytes)} {D : DS} (h : RInv l D) (k : Int) (a b : Bytes) (hk : 0 ≤ k ∧ k < 16) (ha : a.length ≤ 16777216) (hb : b.length ≤ 16777216) : RInv (putR l (k, a, b)) { D with F := setF D.F k (a, b) } := by
  refine ⟨{ h.inv with now := fun j => ?_, last := fun j => ?_ }, putR_says h.says (k, a, b), fun x hx => ?_, ?_⟩
  · simp only [setF]; split
    · exact ha
    · exact h.inv.now j
  · simp only [setF]; split
    · exact hb
    · exact h.inv.last j
  · rcases List.mem_append.1 hx with q | q
    · exact h.num x (List.mem_filter.1 q).1
    · simp at q; subst q; exact hk
  · unfold putR
    rw [List.map_append]
    refine List.nodup_append.2 ⟨(h.nodup.sublist (List.filter_sublist.map _)), by simp, ?_⟩
    intro x hx y hy e
    obtain ⟨z, hz, rfl⟩ := List.mem_map.1 hx
    simp at hy
    have := (List.mem_filter.1 hz).2
    simp at this
    exact this (e.trans hy)
theorem RInv.count {l : List (Int × Bytes × Bytes)} {D : DS} (h : RInv l D) : l.length ≤ 16 := by
  have hs : ∀ x ∈ (l.map (·.1)).map Int.toNat, x ∈ List.range 16 := by
    intro x hx
    obtain ⟨y, hy, rfl⟩ := List.mem_map.1 hx
    obtain ⟨z, hz, rfl⟩ := List.mem_map.1 hy
    have := h.num z hz
    simp; omega
  have hm : ((l.map (·.1)).map Int.toNat).Nodup := by
    refine List.pairwise_map.2 (h.nodup.imp_of_mem ?_)
    intro a b ha hb hne e
    obtain ⟨z, hz, rfl⟩ := List.mem_map.1 ha
    obtain ⟨y, hy, rfl⟩ := List.mem_map.1 hb
    have := h.num z hz; have := h.num y hy
    exact hne (by omega)
  have := List.Nodup.length_le_of_subset hm hs
  simpa using this
theorem RInv.upd {l : List (Int × Bytes × Bytes)} {D D' : DS} (h : RInv l D) (hF : D'.F = D.F) (hi : DInv D') : RInv l D' := ⟨hi, fun k => by rw [hF]; exact h.says k, h.num, h.nodup⟩
end Go.Proofs.YtnicmcdeoimhlaaGreat
/- Arrays in structs: an array as a slice, an element of an array's value; calls of bound methods. Conditions: the rules' own hypotheses. -/
namespace Go.Proofs.YtnicmcdeoimhlaaGreat.M
open Go.RowKit
section
variable {P : Program} {n : Nat} {ops : Array Oper} {Q : Exit → Act → World → Prop} {rest : List Oper} {L : Env} {w : World} {d : Nat} {ty : TypeId} {pos : String} {aft : Array Edge} {As : List Th}
theorem wl_sliceArr {x : Operand} {t e N b o sz : Nat} (hu : P.underlying t = some (.array N e)) (hN : Nat.blt 0 N = true) (hx : look L x = some (ptrV b o)) (hs : szOf P e = some sz) (hd : Nat.blt d n = true) (hk : wl P n ops Q rest ((d, .slice (some ⟨b, o, none⟩) N N) :: L) w) : wl P n ops Q (⟨some d, .slice t x none none none, ty, pos, aft, none⟩ :: rest) L w :=
  wl_val hd (fun ρ hρ => by
    have h3 : ∀ w, (sizeOf e).run P w = .ok sz w := fun w => run_sizeOf hs w
    have hn : ¬ N = 0 := by simp at hN; omega
    simp [execOp, hρ _ _ hx, Instr.sliceAt, run_underlying hu, Instr.sureAddr, Instr.sliceBounds, h3, hn]
    simp [Addr.add]) hk
end
theorem inC_cells2 (l : List Int) : inC.cells l = l.map intV := by
  induction l with
  | nil => rfl
  | cons a l ih => simp only [RowC.cells, List.flatMap_cons, List.map_cons] at ih ⊢; rw [ih]; rfl
end Go.Proofs.YtnicmcdeoimhlaaGreat.M
/- Parts of slices that are read: x[A:B]. Conditions: the rules' own hypotheses. -/
namespace Go.Proofs.YtnicmcdeoimhlaaGreat.M
open Go.RowKit
/-- x[A:B] -/
def viewV (sz : Nat) (v : Value) (A B : Nat) : Value := match v with
  | .slice a _ cap => .slice (if cap = A then a else a.map fun p => p.add (A * sz)) (B - A) (cap - A)
  | v => v
section
variable {P : Program} {n : Nat} {ops : Array Oper} {Q : Exit → Act → World → Prop} {rest : List Oper} {L : Env} {w : World} {d : Nat} {ty : TypeId} {pos : String} {aft : Array Edge}
theorem ev_view {x : Operand} {t e m cap sz : Nat} {a : Option Addr} {lo hi : Option Operand} (A B : Nat) (hu : P.underlying t = some (.slice e)) (hs : szOf P e = some sz) (hx : look L x = some (.slice a m cap)) (hlo : bndL L lo 0 A) (hhi : bndL L hi m B) (h1 : A ≤ B) (h2 : B ≤ cap) :
    Ev P L w ⟨some d, .slice t x lo hi none, ty, pos, aft, none⟩ (viewV sz (.slice a m cap) A B) := fun ρ hρ => by
  have hb := run_bounds (P := P) true m cap _ _ A B (hlo.val hρ) (hhi.val hρ) h1 h2 w
  simp only [execOp, hρ _ _ hx]
  simp [Instr.sliceAt, Instr.slice, run_underlying hu, hb, run_sizeOf hs, viewV]
theorem wl_view {x : Operand} {t e m cap sz : Nat} {a : Option Addr} {lo hi : Option Operand} (A B : Nat) (hu : P.underlying t = some (.slice e)) (hs : szOf P e = some sz) (hx : look L x = some (.slice a m cap)) (hlo : bndL L lo 0 A) (hhi : bndL L hi m B) (h1 : A ≤ B) (h2 : B ≤ cap) (hd : Nat.blt d n = true)
    (hk : wl P n ops Q rest ((d, viewV sz (.slice a m cap) A B) :: L) w) : wl P n ops Q (⟨some d, .slice t x lo hi none, ty, pos, aft, none⟩ :: rest) L w := wl_val hd (ev_view A B hu hs hx hlo hhi h1 h2) hk
end
theorem view_some {sz b o m cap A B : Nat} (h : A < cap) : viewV sz (.slice (some ⟨b, o, none⟩) m cap) A B = .slice (some ⟨b, o + A * sz, none⟩) (B - A) (cap - A) := by
  unfold viewV
  dsimp only
  rw [if_neg (by omega), Option.map_some, addr_add]
section
variable {α : Type} {C : RowC α} {l : List α} {w : World}
theorem RdL.view {a : Option Addr} {m cap A B : Nat} (h : RdL C (.slice a m cap) l w) (hc : m ≤ cap) (h1 : A ≤ B) (h2 : B ≤ l.length) : RdL C (viewV C.size (.slice a m cap) A B) ((l.take B).drop A) w := by
  obtain ⟨ao, cap', e1, e2, e3⟩ := h
  cases e1
  have hl : ((l.take B).drop A).length = B - A := by rw [List.length_drop, List.length_take]; omega
  refine ⟨_, _, by rw [hl]; rfl, by omega, fun i x hx => ?_⟩
  have hi := (List.getElem?_eq_some_iff.1 hx).1
  rw [List.getElem?_drop, List.getElem?_take, if_pos (by omega)] at hx
  obtain ⟨b, off, rfl, hcell⟩ := e3 _ _ hx
  refine ⟨b, off + A * C.size, by rw [if_neg (by omega), Option.map_some, addr_add], fun j u hu => ?_⟩
  have := hcell j u hu
  rw [Nat.add_mul] at this
  rw [show off + A * C.size + i * C.size + j = off + (A * C.size + i * C.size) + j by omega]
  exact this
theorem ent_view {a : Option Addr} {cap A B : Nat} (hl : l.length ≤ 9223372036854775807) (h1 : A ≤ B) (h2 : B ≤ l.length) (hc : l.length ≤ cap) : Ent (rowT C (.slice a l.length cap) l) (RdL C (viewV C.size (.slice a l.length cap) A B) ((l.take B).drop A)) := fun h => (ent_row hl h).view hc h1 h2
theorem RdL.at_ {b off m cap i : Nat} {a : α} (h : RdL C (.slice (some ⟨b, off, none⟩) m cap) l w) (ha : l[i]? = some a) : ∀ (j : Nat) (u : Value), (C.enc a)[j]? = some u → w.cell? ⟨b, off + i * C.size + j, none⟩ = some u := by
  obtain ⟨b', off', e, h2⟩ := h.get ha
  cases e
  exact h2
end
end Go.Proofs.YtnicmcdeoimhlaaGreat.M
