/- Rows of elements: owned slices and slices that are read, by a codec of the element. Conditions: each rule's own hypotheses. -/
import Derived.Test.YtcbdclhoekokpaaGreatDoorOp4
namespace Go.Proofs.YtcbdclhoekokpaaGreatDoor.M
open Go.RowKit

/-- how an element lies in cells -/
structure RowC (α : Type) where
  enc : α → List Value
  size : Nat
  pos : 0 < size
  len : ∀ a, (enc a).length = size
  one : ∀ a, allOne (enc a) = true
def RowC.cells {α : Type} (C : RowC α) (l : List α) : List Value := l.flatMap C.enc
section
variable {α : Type} {C : RowC α} {l l2 : List α} {a : α} {j : Nat}
theorem RowC.cells_len (C : RowC α) (l : List α) : (C.cells l).length = l.length * C.size := by
  induction l with
  | nil => simp [RowC.cells]
  | cons a l ih => simp only [RowC.cells, List.flatMap_cons, List.length_append, C.len, List.length_cons] at ih ⊢; rw [ih, Nat.add_mul]; omega
theorem RowC.cells_one (C : RowC α) (l : List α) : allOne (C.cells l) = true := allOne_mk (by
  intro v hv
  obtain ⟨a, _, h⟩ := List.mem_flatMap.1 hv
  exact allOne_spec (C.one a) v h)
theorem RowC.cells_app (C : RowC α) (l l2 : List α) : C.cells l ++ C.cells l2 = C.cells (l ++ l2) := by simp [RowC.cells]
theorem RowC.cells_at : ∀ {l : List α} {j : Nat}, l[j]? = some a → ((C.cells l).drop (j * C.size)).take C.size = C.enc a
  | [], j, h => by simp at h
  | b :: l, 0, h => by
    simp at h; subst h
    rw [Nat.zero_mul, List.drop_zero]
    show (C.enc b ++ C.cells l).take C.size = _
    rw [← C.len b, List.take_left]
  | b :: l, j + 1, h => by
    have e : (j + 1) * C.size = (C.enc b).length + j * C.size := by rw [C.len, Nat.add_mul]; omega
    show ((C.enc b ++ C.cells l).drop _).take _ = _
    rw [e, ← List.drop_drop, List.drop_left]
    exact RowC.cells_at (by simpa using h)
theorem RowC.cells_get {o : Nat} {u : Value} (h : l[j]? = some a) (ho : (C.enc a)[o]? = some u) : (C.cells l)[j * C.size + o]? = some u := by
  have h1 := RowC.cells_at (C := C) h
  rw [← h1, List.getElem?_take] at ho
  split at ho
  · rw [List.getElem?_drop] at ho; exact ho
  · cases ho
theorem RowC.cells_set {X : List Value} (hX : X = C.enc a) : ∀ {l : List α} {j : Nat}, j < l.length → splice (C.cells l) (j * C.size) X = C.cells (l.set j a)
  | [], j, h => by simp at h
  | b :: l, 0, h => by
    subst hX
    rw [Nat.zero_mul]
    show splice (C.enc b ++ C.cells l) 0 (C.enc a) = C.enc a ++ C.cells l
    unfold splice
    rw [Nat.zero_add, C.len, ← C.len b, List.drop_left]; rfl
  | b :: l, j + 1, h => by
    have e : (j + 1) * C.size = (C.enc b).length + j * C.size := by rw [C.len, Nat.add_mul]; omega
    show splice (C.enc b ++ C.cells l) _ _ = C.enc b ++ C.cells (l.set j a)
    rw [e, splice_append_right, RowC.cells_set hX (by simpa using h)]
theorem RowC.cells_take (C : RowC α) : ∀ (l : List α) (i : Nat), (C.cells l).take (i * C.size) = C.cells (l.take i)
  | [], i => by simp [RowC.cells]
  | b :: l, 0 => by simp [RowC.cells]
  | b :: l, i + 1 => by
    have e : (i + 1) * C.size = (C.enc b).length + i * C.size := by rw [C.len, Nat.add_mul]; omega
    show (C.enc b ++ C.cells l).take _ = C.enc b ++ C.cells (l.take i)
    rw [e, List.take_length_add_append, RowC.cells_take C l i]
end

abbrev rowT {α : Type} (C : RowC α) (v : Value) (l : List α) : Th := ownT v l.length C.size (C.cells l)
theorem Sat.row_cast {α : Type} {C : RowC α} {w : World} {As : List Th} {v : Value} {m size : Nat} {xs : List Value} {l : List α} (h : Sat w (ownT v m size xs :: As)) (hm : m = l.length) (hs : size = C.size) (hx : xs = C.cells l) : Sat w (rowT C v l :: As) := by subst hm hs hx; exact h
def maskOf (n : Nat) (is : List Nat) : List Bool := (List.range n).map (is.contains ·)
/-- some of the things, in this order; the others are dropped -/
theorem Sat.pick {w : World} {As : List Th} (h : Sat w As) (is : List Nat) (hm : maskOk As.length is (maskOf As.length is) = true) : Sat w (pickA As is) := by
  have h1 := h.split is _ hm
  have h2 := h1.drop (pickA As is).length (A := starL (selF (maskOf As.length is) As)) (by simp)
  rw [List.eraseIdx_append_of_length_le (Nat.le_refl _), Nat.sub_self] at h2
  simpa using h2
/-- an empty row -/
theorem Sat.row_nil {α : Type} (C : RowC α) {w : World} {As : List Th} (h : Sat w As) : Sat w (rowT C (.slice none 0 0) [] :: As) :=
  h.new (Only.refl [] w) (A := ownT (.slice none 0 0) 0 C.size []) (F' := fun k => k ∈ ([] : List Nat)) ⟨[], rfl, Own.nil w C.size⟩ (by simp)

/-- a slice that is read -/
def RdL {α : Type} (C : RowC α) (v : Value) (l : List α) (w : World) : Prop := ∃ ao cap, v = .slice ao l.length cap ∧ l.length ≤ 9223372036854775807 ∧ ∀ (i : Nat) (a : α), l[i]? = some a → ∃ b off, ao = some ⟨b, off, none⟩ ∧ ∀ (j : Nat) (u : Value), (C.enc a)[j]? = some u → w.cell? ⟨b, off + i * C.size + j, none⟩ = some u
section
variable {α : Type} {C : RowC α} {l : List α} {w : World} {v : Value}
theorem RdL.shape (h : RdL C v l w) : ∃ ao cap, v = .slice ao l.length cap ∧ l.length ≤ 9223372036854775807 := by obtain ⟨ao, cap, h1, h2, _⟩ := h; exact ⟨ao, cap, h1, h2⟩
theorem RdL.get {ao : Option Addr} {n cap i : Nat} {a : α} (h : RdL C (.slice ao n cap) l w) (ha : l[i]? = some a) : ∃ b off, ao = some ⟨b, off, none⟩ ∧ ∀ (j : Nat) (u : Value), (C.enc a)[j]? = some u → w.cell? ⟨b, off + i * C.size + j, none⟩ = some u := by
  obtain ⟨ao', cap', h1, _, h3⟩ := h
  cases h1
  exact h3 i a ha
theorem RdL.nil (C : RowC α) (w : World) : RdL C (.slice none 0 0) [] w := ⟨none, 0, rfl, by simp, by simp⟩
theorem RdL.lenOf {P : Program} (h : RdL C v l w) : ∀ w1, (Builtin.lenOf v).run P w1 = .ok l.length w1 := by
  obtain ⟨ao, cap, rfl, _⟩ := h.shape
  exact lenOf_slice _ _ _
theorem RdL.isNil {n cap : Nat} (h : RdL C (.slice none n cap) l w) : l = [] := by
  cases l with
  | nil => rfl
  | cons x l => obtain ⟨b, off, h1, _⟩ := h.get (i := 0) (a := x) rfl; cases h1
theorem RdL.first {P : Program} (h : RdL C v l w) : ∀ w1 : World, w1.heap = w.heap → (Builtin.firstCells C.size l.length v).run P w1 = .ok (C.cells l).toArray w1 := by
  obtain ⟨ao, cap, rfl, _⟩ := h.shape
  intro w1 hw
  cases hl : l with
  | nil => cases ao <;> simp [Builtin.firstCells, RowC.cells, loadCells, loadCellsFrom]
  | cons x l' =>
    obtain ⟨b, off, rfl, _⟩ := h.get (i := 0) (a := x) (by rw [hl]; rfl)
    rw [← hl]
    simp only [Builtin.firstCells]
    have := run_loadCells_list (P := P) w1 ⟨b, off, none⟩ (C.cells l) (fun j v hv => by
      rw [addr_add]
      have hjl := (List.getElem?_eq_some_iff.1 hv).1
      rw [C.cells_len] at hjl
      have hq : j / C.size < l.length := Nat.div_lt_of_lt_mul (by rw [Nat.mul_comm]; exact hjl)
      have ha : l[j / C.size]? = some l[j / C.size] := List.getElem?_eq_getElem hq
      obtain ⟨b2, o2, e, hc⟩ := h.get ha
      cases e
      have hr := Nat.mod_lt j C.pos
      have hm : j / C.size * C.size + j % C.size = j := by have := Nat.div_add_mod j C.size; rw [Nat.mul_comm]; exact this
      have hu : (C.enc l[j / C.size])[j % C.size]? = some v := by
        have h1 := RowC.cells_at (C := C) ha
        rw [← h1, List.getElem?_take, if_pos hr, List.getElem?_drop, hm]; exact hv
      have := hc _ _ hu
      rw [World.cell?_of_block (w := w) (by rw [hw])]
      rw [← this, Nat.add_assoc, hm])
    rw [C.cells_len] at this
    exact this
theorem Sat.rd {As : List Th} (hS : Sat w As) (i : Nat) (hi : As[i]? = some (rowT C v l)) (hl : l.length ≤ 9223372036854775807) : RdL C v l w := by
  obtain ⟨ao, cap, rfl, _⟩ := hS.own_shape i hi
  refine ⟨ao, cap, rfl, hl, fun k a ha => ?_⟩
  obtain ⟨b, cap', hv, _⟩ := hS.own_at i hi (by have := (List.getElem?_eq_some_iff.1 ha).1; omega)
  cases hv
  exact ⟨b, 0, rfl, fun j u hu => by rw [Nat.zero_add]; exact hS.ocell i hi rfl (RowC.cells_get ha hu)⟩
theorem ent_row {v : Value} {l : List α} (hl : l.length ≤ 9223372036854775807) : Ent (rowT C v l) (RdL C v l) := fun {w G} h =>
  Sat.rd (As := [rowT C v l]) (w := w) ⟨G, G, fun _ => False, by simp, fun _ _ h => h, h, rfl⟩ 0 rfl hl
end

section
variable {P : Program} {n : Nat} {ops : Array Oper} {Q : Exit → Act → World → Prop} {rest : List Oper} {L : Env} {w : World} {d : Nat} {ty : TypeId} {pos : String} {aft : Array Edge}
variable {α : Type} {C : RowC α} {l : List α} {v : Value} {a : α} {As : List Th}

/-- &x[j] -/
theorem wl_rowIdx (C : RowC α) (i j : Nat) (hS : Sat w As) {x y : Operand} {t : Nat} {k : IntKind} {q : Int} (hi : As[i]? = some (rowT C v l)) (hx : look L x = some v) (hy : look L y = some (.int k q)) (hq : q = (j : Int)) (ha : l[j]? = some a) (hs : elemSz P t = some C.size) (hd : Nat.blt d n = true)
    (hk : ∀ b cap, v = .slice (some ⟨b, 0, none⟩) l.length cap → wl P n ops Q rest ((d, ptrV b (j * C.size)) :: L) w) : wl P n ops Q (⟨some d, .indexAddr t x y, ty, pos, aft, none⟩ :: rest) L w :=
  wl_indexO i j hS hi hx hy hq (List.getElem?_eq_some_iff.1 ha).1 hs hd hk
/-- a struct of an owned row -/
theorem wl_rowLoadA (i j : Nat) (hS : Sat w As) {x : Operand} {t b cap m : Nat} {vs : List Value} (hi : As[i]? = some (rowT C v l)) (hv : v = .slice (some ⟨b, 0, none⟩) m cap) (hx : look L x = some (ptrV b (j * C.size))) (ha : l[j]? = some a) (hg : aggB P t = some true) (hs : szOf P t = some C.size) (hvs : C.enc a = vs) (hd : Nat.blt d n = true)
    (hk : wl P n ops Q rest ((d, .agg vs.toArray) :: L) w) : wl P n ops Q (⟨some d, .load t x, ty, pos, aft, none⟩ :: rest) L w := by
  subst hvs
  exact wl_loadO i hS hi hv hx hg hs (RowC.cells_at ha) (C.len a) hd hk
/-- a cell of an element of an owned row -/
theorem wl_rowLoad (i j o : Nat) (hS : Sat w As) {x : Operand} {t b cap m q : Nat} {u : Value} (hi : As[i]? = some (rowT C v l)) (hv : v = .slice (some ⟨b, 0, none⟩) m cap) (hx : look L x = some (ptrV b q)) (hq : q = j * C.size + o) (ha : l[j]? = some a) (hg : aggB P t = some false) (hu : (C.enc a)[o]? = some u) (hd : Nat.blt d n = true)
    (hk : wl P n ops Q rest ((d, u) :: L) w) : wl P n ops Q (⟨some d, .load t x, ty, pos, aft, none⟩ :: rest) L w := by
  subst hq
  exact wl_load hx hg (hS.ocell i hi hv (RowC.cells_get ha hu)) hd hk
/-- the same, the row's value written out -/
theorem ev_rowLoad0 (C : RowC α) (i j o : Nat) (hS : Sat w As) {x : Operand} {t b cap m : Nat} {u : Value} {a : α} {l : List α} (hi : As[i]? = some (rowT C (.slice (some ⟨b, 0, none⟩) m cap) l)) (ha : l[j]? = some a) (hg : aggB P t = some false) (hx : look L x = some (ptrV b (0 + j * C.size + o))) (hu : (C.enc a)[o]? = some u) : Ev P L w ⟨some d, .load t x, ty, pos, aft, none⟩ u := by
  refine ev_load hx hg ?_
  rw [Nat.zero_add]
  exact hS.ocell i hi rfl (RowC.cells_get ha hu)
theorem wl_rowLoad0 (C : RowC α) (i j o : Nat) (hS : Sat w As) {x : Operand} {t b cap m : Nat} {u : Value} {a : α} {l : List α} (hi : As[i]? = some (rowT C (.slice (some ⟨b, 0, none⟩) m cap) l)) (ha : l[j]? = some a) (hg : aggB P t = some false) (hx : look L x = some (ptrV b (0 + j * C.size + o))) (hu : (C.enc a)[o]? = some u) (hd : Nat.blt d n = true)
    (hk : wl P n ops Q rest ((d, u) :: L) w) : wl P n ops Q (⟨some d, .load t x, ty, pos, aft, none⟩ :: rest) L w := wl_val hd (ev_rowLoad0 C i j o hS hi ha hg hx hu) hk
theorem ev_rowLoadA0 (C : RowC α) (i j : Nat) (hS : Sat w As) {x : Operand} {t b cap m : Nat} {vs : List Value} {a : α} {l : List α} (hi : As[i]? = some (rowT C (.slice (some ⟨b, 0, none⟩) m cap) l)) (ha : l[j]? = some a) (hg : aggB P t = some true) (hs : szOf P t = some C.size) (hx : look L x = some (ptrV b (0 + j * C.size))) (hvs : C.enc a = vs) : Ev P L w ⟨some d, .load t x, ty, pos, aft, none⟩ (.agg vs.toArray) := by
  subst hvs
  refine ev_loadAt hx hg (by rw [C.len]; exact hs) ?_
  rw [Nat.zero_add]
  exact hS.oagg i hi rfl (RowC.cells_at ha)
theorem wl_rowLoadA0 (C : RowC α) (i j : Nat) (hS : Sat w As) {x : Operand} {t b cap m : Nat} {vs : List Value} {a : α} {l : List α} (hi : As[i]? = some (rowT C (.slice (some ⟨b, 0, none⟩) m cap) l)) (ha : l[j]? = some a) (hg : aggB P t = some true) (hs : szOf P t = some C.size) (hx : look L x = some (ptrV b (0 + j * C.size))) (hvs : C.enc a = vs) (hd : Nat.blt d n = true)
    (hk : wl P n ops Q rest ((d, .agg vs.toArray) :: L) w) : wl P n ops Q (⟨some d, .load t x, ty, pos, aft, none⟩ :: rest) L w := wl_val hd (ev_rowLoadA0 C i j hS hi ha hg hs hx hvs) hk
/-- an element is stored into an owned row -/
theorem wl_rowStore (i j : Nat) (a' : α) (hS : Sat w As) {x y : Operand} {t b cap m' : Nat} {u : Value} (hi : As[i]? = some (rowT C v l)) (hv : v = .slice (some ⟨b, 0, none⟩) m' cap) (hx : look L x = some (ptrV b (j * C.size))) (hy : look L y = some u) (hs : szOf P t = some C.size) (hu : u.cells.toList = C.enc a') (hj : j < l.length)
    (hk : ∀ w', Sat w' (As.set i (rowT C v (l.set j a'))) → wl P n ops Q rest L w') : wl P n ops Q (⟨none, .store t x y, ty, pos, aft, none⟩ :: rest) L w := by
  have hfit : j * C.size + C.size ≤ (C.cells l).length := by
    rw [C.cells_len]
    have := Nat.mul_le_mul_right C.size (show j + 1 ≤ l.length from hj)
    rw [Nat.add_mul] at this; omega
  refine wl_storeO i hS hi hv hx hy hs (by rw [← Array.length_toList, hu, C.len]) (by rw [hu]; exact C.one a') hfit (RowC.cells_set hu hj) ?_
  intro w' h
  refine hk w' ?_
  show Sat w' (As.set i (ownT v (l.set j a').length C.size (C.cells (l.set j a'))))
  rw [List.length_set]
  exact h
/-- a cell of an element is stored into an owned row -/
theorem wl_rowStoreF (i j o : Nat) (a' : α) (hS : Sat w As) {x y : Operand} {t b cap m' q : Nat} {u : Value} (hi : As[i]? = some (rowT C v l)) (hv : v = .slice (some ⟨b, 0, none⟩) m' cap) (hx : look L x = some (ptrV b q)) (hq : q = j * C.size + o) (hy : look L y = some u) (hs : szOf P t = some 1) (ha : l[j]? = some a) (h1 : u.cells.toList = [u]) (ho : o < C.size) (hu : (C.enc a).set o u = C.enc a') (h1' : u.oneCell' = true)
    (hk : ∀ w', Sat w' (As.set i (rowT C v (l.set j a'))) → wl P n ops Q rest L w') : wl P n ops Q (⟨none, .store t x y, ty, pos, aft, none⟩ :: rest) L w := by
  subst hq
  have hj := (List.getElem?_eq_some_iff.1 ha).1
  have hfit : j * C.size + C.size ≤ (C.cells l).length := by
    rw [C.cells_len]
    have := Nat.mul_le_mul_right C.size (show j + 1 ≤ l.length from hj)
    rw [Nat.add_mul] at this; omega
  have e : splice (C.cells l) (j * C.size + o) u.cells.toList = C.cells (l.set j a') := by
    rw [h1, ← RowC.cells_set (C := C) hu hj]
    have hat := RowC.cells_at (C := C) ha
    have hl := C.len a
    generalize hX : C.cells l = X at hat hfit ⊢
    apply List.ext_getElem?
    intro k
    have hA : ∀ k, k < C.size → (C.enc a)[k]? = X[j * C.size + k]? := by
      intro k hk
      rw [← hat, List.getElem?_take, if_pos hk, List.getElem?_drop]
    simp only [splice, List.length_cons, List.length_nil, List.length_set, hl]
    have hT : (X.take (j * C.size)).length = j * C.size := by rw [List.length_take]; omega
    have hT2 : (X.take (j * C.size + o)).length = j * C.size + o := by rw [List.length_take]; omega
    by_cases h2 : k < j * C.size
    · rw [List.append_assoc, List.getElem?_append_left (by omega), List.append_assoc, List.getElem?_append_left (by omega), List.getElem?_take, List.getElem?_take, if_pos (by omega), if_pos h2]
    · by_cases h3 : k < j * C.size + C.size
      · rw [List.append_assoc (X.take (j * C.size)), List.getElem?_append_right (l₁ := X.take (j * C.size)) (by omega), hT, List.getElem?_append_left (l₁ := (C.enc a).set o u) (by simp [hl]; omega), List.getElem?_set]
        by_cases h4 : o = k - j * C.size
        · rw [if_pos h4, if_pos (by omega), List.append_assoc, List.getElem?_append_right (by omega), hT2, show k - (j * C.size + o) = 0 by omega]; rfl
        · rw [if_neg h4, hA _ (by omega), show j * C.size + (k - j * C.size) = k by omega]
          by_cases h5 : k < j * C.size + o
          · rw [List.append_assoc, List.getElem?_append_left (by omega), List.getElem?_take, if_pos h5]
          · rw [List.append_assoc, List.getElem?_append_right (by omega), hT2, List.getElem?_append_right (by simp; omega), List.getElem?_drop]
            congr 1; simp; omega
      · rw [List.append_assoc, List.getElem?_append_right (by omega), hT2, List.getElem?_append_right (by simp; omega), List.getElem?_drop, List.append_assoc, List.getElem?_append_right (by omega), hT, List.getElem?_append_right (by simp [hl]; omega), List.getElem?_drop]
        congr 1; simp [hl]; omega
  refine wl_storeO i hS hi hv hx hy hs (by rw [← Array.length_toList, h1]; rfl) (by rw [h1]; simp [allOne, h1']) (by omega) e ?_
  intro w' h
  refine hk w' ?_
  show Sat w' (As.set i (ownT v (l.set j a').length C.size (C.cells (l.set j a'))))
  rw [List.length_set]
  exact h
/-- []T{..} -/
theorem wl_rowBuild (C : RowC α) (l : List α) (hS : Sat w As) {t e len : Nat} {z : Value} {parts : List (Nat × Operand)} {vs : List Value} (hx : looks L (parts.map (·.2)) = some vs) (hu : P.underlying t = some (.slice e)) (hi : (P.info? e).map (fun i => (i.zero, i.size)) = some (some z, C.size)) (hlen : Nat.ble (len * C.size) 1000 = true) (hzs : z.cells.size = C.size)
    (hok : fillOk (len * C.size) ((parts.map (·.1)).map fun i => (i * C.size, C.size)) vs = true) (hl : l.length = len) (he : fillL (List.replicate len z.cells.toList).flatten ((parts.map (·.1)).map fun i => (i * C.size, C.size)) vs = C.cells l) (hd : Nat.blt d n = true)
    (hk : ∀ b w', Sat w' (rowT C (.slice (some ⟨b, 0, none⟩) len len) l :: As) → wl P n ops Q rest ((d, .slice (some ⟨b, 0, none⟩) len len) :: L) w') : wl P n ops Q (⟨some d, .buildSlice t len parts.toArray, ty, pos, aft, none⟩ :: rest) L w := by
  refine wl_buildSlice hS hx hu hi hlen hzs hok hd ?_
  intro b w' h
  exact hk b w' (h.row_cast hl.symm rfl he)
/-- append(x, y...), x an owned row, y read -/
theorem wl_rowApp (C : RowC α) (i : Nat) {l2 : List α} (hS : Sat w As) {t t2 e bytes : Nat} {s x : Operand} {z xv : Value} {d2 : TypeDesc} (hi : As[i]? = some (rowT C v l)) (hs : look L s = some v) (hx : look L x = some xv) (hr : RdL C xv l2 w) (hu : P.underlying t = some (.slice e)) (hu2 : P.underlying t2 = some d2) (hd2 : ∀ k, d2 ≠ .int k)
    (hif : (P.info? e).map (fun i => (i.zero, i.size, i.bytes)) = some (some z, C.size, bytes)) (hz : z.cells.size = C.size) (hb : (l.length + l2.length) * bytes ≤ 140737488355328) (hd : Nat.blt d n = true) (hm : l.length + l2.length ≤ 9223372036854775807)
    (hk : ∀ v' w', Sat w' (As.set i (rowT C v' (l ++ l2))) → wl P n ops Q rest ((d, v') :: L) w') : wl P n ops Q (⟨some d, .call ⟨.builtin .append, #[s, x], #[t, t2]⟩, ty, pos, aft, none⟩ :: rest) L w := by
  refine wl_append i hS hi hs hx hu hu2 hd2 hif hz C.pos hr.lenOf hr.first (C.cells_len l2) (C.cells_one l2) hb hm hd ?_
  intro v' w' h
  refine hk v' w' ?_
  show Sat w' (As.set i (ownT v' (l ++ l2).length C.size (C.cells (l ++ l2))))
  rw [List.length_append, ← C.cells_app]
  exact h
end
/-! ### results that lie in cells -/
def resRun (tmps : Array Value) : ResultVar → Sem Value
  | .tmp t => pure (tmps.getD t undef)
  | .cell a t => do loadVar t (← asAddr (tmps.getD a undef))
def resOk (P : Program) (n : Nat) (L : Env) (w : World) (r : ResultVar) (v : Value) : Prop := ∀ a, Fr n L a → (resRun a.tmps r).run P w = .ok v w
section
variable {P : Program} {n : Nat} {L : Env} {w : World} {Q : Exit → Act → World → Prop}
theorem resT {t : Nat} {v : Value} (h : eget L t = some v) : resOk P n L w (.tmp t) v := fun a ha => by
  have := ha.get t v h; simp [resRun, this]
theorem resC {x t b o : Nat} {v : Value} (h : eget L x = some (ptrV b o)) (ha : aggB P t = some false) (hc : w.cell? ⟨b, o, none⟩ = some v) : resOk P n L w (.cell x t) v := fun a hf => by
  have := hf.get x _ h; simp [resRun, this, asAddr, loadVar, aggB_false ha, load, Sem.run, hc]
theorem resCA {x t b o m : Nat} {cs vs : List Value} (h : eget L x = some (ptrV b o)) (ha : aggB P t = some true) (hs : szOf P t = some m) (hb : Blk w b cs) (hm : o + m ≤ cs.length) (hvs : (cs.drop o).take m = vs) : resOk P n L w (.cell x t) (.agg vs.toArray) := fun a hf => by
  subst hvs
  have := hf.get x _ h; simp [resRun, this, asAddr, loadVar, aggB_true ha, run_sizeOf hs, run_loadCells_blk hb o m hm]
theorem results_eq (fn : Func) (tmps : Array Value) : results fn tmps = (do let vs ← fn.results.mapM (resRun tmps); pure (if h : vs.size = 1 then vs[0] else .tuple vs)) := by
  have e : (resRun tmps) = (fun | .tmp t => pure (tmps.getD t undef) | .cell a t => do loadVar t (← asAddr (tmps.getD a undef)) : ResultVar → Sem Value) := by
    funext r; cases r <;> rfl
  rw [e]; rfl
theorem finR1 {fn : Func} {R : Ending → World → Prop} {r : ResultVar} {v : Value} {e : Exit} (he : e = .normal ∨ e = .ret) (hf : fn.results = #[r]) (hv : resOk P n L w r v) (h : R (.returned v) w) : qs n (bodyPost P fn R) e L w :=
  fin_of he (fun a ha => by rw [results_eq, hf]; simp [hv a ha]) h
theorem finR2 {fn : Func} {R : Ending → World → Prop} {r r2 : ResultVar} {v v2 : Value} {e : Exit} (he : e = .normal ∨ e = .ret) (hf : fn.results = #[r, r2]) (hv : resOk P n L w r v) (hv2 : resOk P n L w r2 v2) (h : R (.returned (.tuple #[v, v2])) w) : qs n (bodyPost P fn R) e L w :=
  fin_of he (fun a ha => by rw [results_eq, hf]; simp [hv a ha, hv2 a ha]) h
theorem finR3 {fn : Func} {R : Ending → World → Prop} {r r2 r3 : ResultVar} {v v2 v3 : Value} {e : Exit} (he : e = .normal ∨ e = .ret) (hf : fn.results = #[r, r2, r3]) (hv : resOk P n L w r v) (hv2 : resOk P n L w r2 v2) (hv3 : resOk P n L w r3 v3) (h : R (.returned (.tuple #[v, v2, v3])) w) : qs n (bodyPost P fn R) e L w :=
  fin_of he (fun a ha => by rw [results_eq, hf]; simp [hv a ha, hv2 a ha, hv3 a ha]) h
end
/-! ### rows of bytes -/
def byC : RowC UInt8 := ⟨fun c => [.int .u8 (c.toNat : Int)], 1, by decide, fun _ => rfl, fun _ => rfl⟩
theorem byC_cells (l : List UInt8) : byC.cells l = bytesV l := by
  induction l with
  | nil => rfl
  | cons c l ih => show [_] ++ byC.cells l = _; rw [ih]; rfl
section
variable {P : Program} {n : Nat} {ops : Array Oper} {Q : Exit → Act → World → Prop} {rest : List Oper} {L : Env} {w : World} {d : Nat} {ty : TypeId} {pos : String} {aft : Array Edge} {As : List Th}
/-- []byte(s) -/
theorem wl_rowBytes (hS : Sat w As) {x : Operand} {sT dT e : Nat} {s : List UInt8} (hx : look L x = some (strV s)) (hs : P.underlying sT = some .string) (hd : P.underlying dT = some (.slice e)) (he : P.underlying e = some (.int .u8)) (hdd : Nat.blt d n = true)
    (hk : ∀ v w', Sat w' (rowT byC v s :: As) → wl P n ops Q rest ((d, v) :: L) w') : wl P n ops Q (⟨some d, .convert sT dT x, ty, pos, aft, none⟩ :: rest) L w := by
  refine wl_does rfl hdd (fun a ha => does_bytes sT dT x rfl (ha.eval hx) hs hd he) ?_
  rintro v w' ⟨cap, hc, rfl, hb, ho, hsz⟩
  have hl : (⟨s.toArray⟩ : ByteArray).size = s.length := by simp [ByteArray.size]
  rw [hl] at hc hb ⊢
  have e1 : (⟨s.toArray⟩ : ByteArray).data.toList = s := rfl
  rw [e1] at hb
  refine hk _ _ (hS.new ho (F' := fun k => k ∈ [w.heap.size]) (A := ownT _ _ _ _) ⟨[w.heap.size], rfl, own_of_blk (sp := bytesV (List.replicate (cap - s.length) 0)) ?_ (byC.cells_len s) hc ?_⟩ (fun k hk => by simp at hk; omega))
  · rw [byC_cells]; simpa [bytesV] using hb
  · rw [byC_cells]
    have : byC.size = 1 := rfl
    rw [this, List.length_append, bytesV_length, bytesV_length, List.length_replicate]; omega
/-- string(x), x a row of bytes -/
theorem ev_rowStr (i : Nat) (hS : Sat w As) {x : Operand} {sT dT e : Nat} {v : Value} {l : List UInt8} (hi : As[i]? = some (rowT byC v l)) (hx : look L x = some v) (hs : P.underlying sT = some (.slice e)) (he : P.underlying e = some (.int .u8)) (hd : P.underlying dT = some .string) : Ev P L w ⟨some d, .convert sT dT x, ty, pos, aft, none⟩ (strV l) := fun ρ hρ => by
  obtain ⟨foot, hown⟩ := hS.own i hi
  obtain ⟨hl, ⟨rfl, h0, rfl⟩ | ⟨b, cap, sp, rfl, hc, hb, hlen, rfl⟩⟩ := hown
  · have hl0 : l = [] := List.eq_nil_of_length_eq_zero h0
    subst hl0
    simp [execOp, hρ _ _ hx, run_convert_bytes_string w sT dT e none 0 0 hs he hd, Conv.bytesToString]
    rfl
  · refine ev_strB i hS l hi rfl hx hs he hd ?_ rfl ρ hρ
    rw [List.drop_zero, byC_cells, List.take_of_length_le (by rw [bytesV_length]; exact Nat.le_refl _)]
theorem wl_rowStr (i : Nat) (hS : Sat w As) {x : Operand} {sT dT e : Nat} {v : Value} {l : List UInt8} (hi : As[i]? = some (rowT byC v l)) (hx : look L x = some v) (hs : P.underlying sT = some (.slice e)) (he : P.underlying e = some (.int .u8)) (hd : P.underlying dT = some .string) (hdd : Nat.blt d n = true) (hk : wl P n ops Q rest ((d, strV l) :: L) w) : wl P n ops Q (⟨some d, .convert sT dT x, ty, pos, aft, none⟩ :: rest) L w :=
  wl_val hdd (ev_rowStr i hS hi hx hs he hd) hk
end
theorem Ev.gd {P : Program} {L : Env} {w : World} {d : Option Nat} {op : Op} {ty : TypeId} {pos : String} {aft : Array Edge} {gd : Option (Nat × Bool)} {v : Value} (h : Ev P L w ⟨d, op, ty, pos, aft, none⟩ v) : Ev P L w ⟨d, op, ty, pos, aft, gd⟩ v := h

/-- a slice that is read, whose elements say more of the memory -/
def RdX {α : Type} (enc : α → List Value) (size : Nat) (φ : α → World → Prop) (v : Value) (l : List α) (w : World) : Prop := ∃ ao cap, v = .slice ao l.length cap ∧ l.length ≤ 9223372036854775807 ∧ ∀ (i : Nat) (a : α), l[i]? = some a →
  (∃ b off, ao = some ⟨b, off, none⟩ ∧ ∀ (j : Nat) (u : Value), (enc a)[j]? = some u → w.cell? ⟨b, off + i * size + j, none⟩ = some u) ∧ φ a w
section
variable {α : Type} {enc : α → List Value} {size : Nat} {φ : α → World → Prop} {l : List α} {w : World} {v : Value}
theorem RdX.shape (h : RdX enc size φ v l w) : ∃ ao cap, v = .slice ao l.length cap ∧ l.length ≤ 9223372036854775807 := by obtain ⟨ao, cap, h1, h2, _⟩ := h; exact ⟨ao, cap, h1, h2⟩
theorem RdX.get {ao : Option Addr} {n cap i : Nat} {a : α} (h : RdX enc size φ (.slice ao n cap) l w) (ha : l[i]? = some a) :
    (∃ b off, ao = some ⟨b, off, none⟩ ∧ ∀ (j : Nat) (u : Value), (enc a)[j]? = some u → w.cell? ⟨b, off + i * size + j, none⟩ = some u) ∧ φ a w := by
  obtain ⟨ao', cap', h1, _, h3⟩ := h
  cases h1
  exact h3 i a ha
theorem RdX.cells {b off n cap i : Nat} {a : α} (h : RdX enc size φ (.slice (some ⟨b, off, none⟩) n cap) l w) (ha : l[i]? = some a) : ∀ (j : Nat) (u : Value), (enc a)[j]? = some u → w.cell? ⟨b, off + i * size + j, none⟩ = some u := by
  obtain ⟨⟨b2, o2, e, hc⟩, _⟩ := h.get ha
  cases e; exact hc
theorem RdX.elem {F : Th} {ao : Option Addr} {n cap i : Nat} {a : α} (h : Ent F (RdX enc size φ (.slice ao n cap) l)) (ha : l[i]? = some a) : Ent F (φ a) := fun g => ((h g).get ha).2
end
end Go.Proofs.YtcbdclhoekokpaaGreatDoor.M
