/- A small logic of memory over whatever program: rows of cells ('Blk'), what a step may have changed ('Only'), and laws for the operations on many cells. Conditions: each law's own hypotheses. -/
import Derived.Test.YtcbdclhoekokpaaGreatDoorRows
import Derived.WalkKit
import Derived.WalkSpells
import Derived.WalkLawsBesides
import Derived.BigQuiet
namespace Go.Proofs.YtcbdclhoekokpaaGreatDoor.M
open Go.RowKit
/-- block b is a row of the cells cs, none of them frozen -/
def Blk (w : World) (b : Nat) (cs : List Value) : Prop :=
  ∃ T lo hi, w.heap[b]? = some (.cells cs.toArray T (lo, hi)) ∧ (hi ≤ lo ∨ cs.length ≤ lo)
theorem Blk.lt {w : World} {b : Nat} {cs : List Value} (h : Blk w b cs) : b < w.heap.size := by
  obtain ⟨T, lo, hi, h, _⟩ := h
  exact (Array.getElem?_eq_some_iff.1 h).1
theorem Blk.cell {w : World} {b o : Nat} {cs : List Value} {v : Value} (h : Blk w b cs) (hv : cs[o]? = some v) : w.cell? ⟨b, o, none⟩ = some v := by
  obtain ⟨T, lo, hi, h, _⟩ := h
  simp [World.cell?, h, hv]
theorem Blk.free {w : World} {b : Nat} {cs : List Value} (h : Blk w b cs) (o : Nat) (ho : o < cs.length) : w.frozen? ⟨b, o, none⟩ = false := by
  obtain ⟨T, lo, hi, h, hf⟩ := h
  simp only [World.frozen?, h]
  simp
  omega
theorem Blk.congr {w w' : World} {b : Nat} {cs : List Value} (h : Blk w b cs) (e : w'.heap[b]? = w.heap[b]?) : Blk w' b cs := by
  unfold Blk; rw [e]; exact h
theorem Blk.drew {w : World} {b : Nat} {cs : List Value} (h : Blk w b cs) : Blk w.drew b cs := h
theorem Blk.set {w : World} {b : Nat} {cs : List Value} (h : Blk w b cs) (o : Nat) (v : Value) : Blk (w.setCell ⟨b, o, none⟩ v) b (cs.set o v) := by
  obtain ⟨T, lo, hi, h, hf⟩ := h
  refine ⟨T, lo, hi, ?_, by simpa using hf⟩
  simp [World.setCell, Array.getElem?_modify, h]
theorem Blk.other {w : World} {b : Nat} {cs : List Value} (h : Blk w b cs) {a : Addr} (hne : b ≠ a.block) (v : Value) : Blk (w.setCell a v) b cs :=
  h.congr (Below.heap_setCell _ _ _ _ hne)
theorem Blk.alloc {w : World} {b : Nat} {cs : List Value} (h : Blk w b cs) (o : Obj) : Blk (w.alloc o) b cs :=
  h.congr (Below.heap_alloc _ _ _ h.lt)
theorem Blk.new (w : World) (cs : List Value) (T : TypeId) : Blk (w.alloc (.cells cs.toArray T)) w.heap.size cs :=
  ⟨T, 0, 0, heap_alloc_new _ _, .inl (Nat.le_refl _)⟩
theorem Blk.new' (w : World) (cs : Array Value) (T : TypeId) : Blk (w.alloc (.cells cs T)) w.heap.size cs.toList :=
  ⟨T, 0, 0, by rw [heap_alloc_new], .inl (Nat.le_refl _)⟩
/-- of what was there in w, only the blocks of S may have changed -/
structure Only (S : List Nat) (w w' : World) : Prop where
  os : w'.os = w.os
  tape : w'.tape = w.tape
  output : w'.output = w.output
  size : w.heap.size ≤ w'.heap.size
  block : ∀ k, k < w.heap.size → k ∉ S → w'.heap[k]? = w.heap[k]?
theorem Only.refl (S : List Nat) (w : World) : Only S w w := ⟨rfl, rfl, rfl, Nat.le_refl _, fun _ _ _ => rfl⟩
theorem Only.trans {S S' : List Nat} {a b c : World} (h : Only S a b) (k : Only S' b c) (hs : ∀ x ∈ S', x ∈ S ∨ a.heap.size ≤ x) : Only S a c :=
  ⟨k.os.trans h.os, k.tape.trans h.tape, k.output.trans h.output, Nat.le_trans h.size k.size, fun i hi hn =>
    (k.block i (Nat.lt_of_lt_of_le hi h.size) (fun hm => by rcases hs i hm with h1 | h1; exact hn h1; omega)).trans (h.block i hi hn)⟩
theorem Only.trans1 {S : List Nat} {a b c : World} (h : Only S a b) (k : Only S b c) : Only S a c := h.trans k (fun _ hx => .inl hx)
theorem Only.mono {S S' : List Nat} {a b : World} (h : Only S a b) (hs : ∀ x ∈ S, x ∈ S') : Only S' a b :=
  ⟨h.os, h.tape, h.output, h.size, fun i hi hn => h.block i hi (fun hm => hn (hs i hm))⟩
theorem Only.drew {S : List Nat} {a w : World} (h : Only S a w) : Only S a w.drew := ⟨h.os, h.tape, h.output, h.size, h.block⟩
theorem Only.alloc {S : List Nat} {a w : World} (h : Only S a w) (o : Obj) : Only S a (w.alloc o) :=
  h.trans (S' := []) ⟨rfl, rfl, rfl, by simp, fun k hk _ => Below.heap_alloc _ _ _ hk⟩ (fun _ hx => by cases hx)
theorem Only.setCell {S : List Nat} {a w : World} (h : Only S a w) {p : Addr} (hp : p.block ∈ S ∨ a.heap.size ≤ p.block) (u : Value) : Only S a (w.setCell p u) :=
  h.trans (S' := [p.block]) ⟨rfl, rfl, rfl, by simp [World.setCell], fun k _ hn => Below.heap_setCell _ _ _ _ (by simpa using hn)⟩
    (fun x hx => by simp only [List.mem_singleton] at hx; subst hx; exact hp)
theorem Only.below {w w' : World} (h : Only [] w w') : Below w.heap.size w w' :=
  ⟨h.os, h.tape, h.output, h.size, fun k hk => h.block k hk (by simp)⟩
theorem Only.belowB {S : List Nat} {B : Nat} {W w w' : World} (hb : Below B W w) (h : Only S w w') (hs : ∀ x ∈ S, B ≤ x) (hB : B ≤ w.heap.size) : Below B W w' :=
  hb.trans ⟨h.os, h.tape, h.output, h.size, fun k hk => h.block k (by omega) (fun hm => by have := hs k hm; omega)⟩
theorem Only.blk {S : List Nat} {w w' : World} {b : Nat} {cs : List Value} (h : Only S w w') (hb : Blk w b cs) (hn : b ∉ S) : Blk w' b cs :=
  hb.congr (h.block b hb.lt hn)
theorem Only.cell {S : List Nat} {w w' : World} {b o : Nat} (h : Only S w w') (hb : b < w.heap.size) (hn : b ∉ S) : w'.cell? ⟨b, o, none⟩ = w.cell? ⟨b, o, none⟩ :=
  World.cell?_of_block (w := w) (h.block b hb hn)
/-- footprints of several things: from B on, below N, no two with a block in common -/
structure Apart (B N : Nat) (Fs : List (List Nat)) : Prop where
  lo : ∀ F ∈ Fs, ∀ k ∈ F, B ≤ k
  hi : ∀ F ∈ Fs, ∀ k ∈ F, k < N
  dis : ∀ (i j : Nat) (F G : List Nat), i ≠ j → Fs[i]? = some F → Fs[j]? = some G → ∀ k ∈ F, k ∉ G
theorem Apart.grow {B N N' : Nat} {Fs : List (List Nat)} (h : Apart B N Fs) (hN : N ≤ N') : Apart B N' Fs :=
  ⟨h.lo, fun F hF k hk => Nat.lt_of_lt_of_le (h.hi F hF k hk) hN, h.dis⟩
theorem Apart.nil (B N : Nat) : Apart B N [] := ⟨by simp, by simp, by simp⟩
/-- one footprint has moved: to blocks that it had, or new ones -/
theorem Apart.upd {B N N' : Nat} {Fs : List (List Nat)} (h : Apart B N Fs) (i : Nat) {F F' : List Nat} (hi : Fs[i]? = some F) (hf : ∀ k ∈ F', k ∈ F ∨ N ≤ k) (hF : ∀ k ∈ F', k < N') (hN : N ≤ N') (hB : B ≤ N) : Apart B N' (Fs.set i F') := by
  have hmem : F ∈ Fs := List.mem_of_getElem? hi
  have hil := (List.getElem?_eq_some_iff.1 hi).1
  refine ⟨fun G hG k hk => ?_, fun G hG k hk => ?_, fun a b G K hab hG hK k hk hk2 => ?_⟩
  · rcases List.mem_or_eq_of_mem_set hG with h1 | rfl
    · exact h.lo G h1 k hk
    · rcases hf k hk with h2 | h2
      · exact h.lo F hmem k h2
      · omega
  · rcases List.mem_or_eq_of_mem_set hG with h1 | rfl
    · have := h.hi G h1 k hk; omega
    · exact hF k hk
  · rw [List.getElem?_set] at hG hK
    by_cases ha : i = a
    · subst ha
      rw [if_pos rfl, if_pos hil] at hG
      rw [if_neg hab] at hK
      cases hG
      rcases hf k hk with h2 | h2
      · exact h.dis i b F K hab hi hK k h2 hk2
      · have := h.hi K (List.mem_of_getElem? hK) k hk2; omega
    · rw [if_neg ha] at hG
      by_cases hb : i = b
      · subst hb
        rw [if_pos rfl, if_pos hil] at hK
        cases hK
        rcases hf k hk2 with h2 | h2
        · exact h.dis a i G F hab hG hi k hk h2
        · have := h.hi G (List.mem_of_getElem? hG) k hk; omega
      · rw [if_neg hb] at hK
        exact h.dis a b G K hab hG hK k hk hk2
/-- a new thing in new blocks -/
theorem Apart.add {B N N' : Nat} {Fs : List (List Nat)} (h : Apart B N Fs) {F' : List Nat} (hf : ∀ k ∈ F', N ≤ k) (hF : ∀ k ∈ F', k < N') (hN : N ≤ N') (hB : B ≤ N) : Apart B N' (Fs ++ [F']) := by
  refine ⟨fun G hG k hk => ?_, fun G hG k hk => ?_, fun a b G K hab hG hK k hk hk2 => ?_⟩
  · rcases List.mem_append.1 hG with h1 | h1
    · exact h.lo G h1 k hk
    · simp only [List.mem_singleton] at h1; subst h1; have := hf k hk; omega
  · rcases List.mem_append.1 hG with h1 | h1
    · have := h.hi G h1 k hk; omega
    · simp only [List.mem_singleton] at h1; subst h1; exact hF k hk
  · by_cases ha : a < Fs.length
    · rw [List.getElem?_append_left ha] at hG
      by_cases hb : b < Fs.length
      · rw [List.getElem?_append_left hb] at hK
        exact h.dis a b G K hab hG hK k hk hk2
      · rw [List.getElem?_append_right (by omega)] at hK
        have hK' := List.mem_of_getElem? hK
        simp only [List.mem_singleton] at hK'; subst hK'
        have h1 := h.hi G (List.mem_of_getElem? hG) k hk
        have h2 := hf k hk2
        omega
    · rw [List.getElem?_append_right (by omega)] at hG
      have hG' := List.mem_of_getElem? hG
      simp only [List.mem_singleton] at hG'; subst hG'
      by_cases hb : b < Fs.length
      · rw [List.getElem?_append_left hb] at hK
        have h1 := h.hi K (List.mem_of_getElem? hK) k hk2
        have h2 := hf k hk
        omega
      · have h1 := (List.getElem?_eq_some_iff.1 hG).1
        rw [List.getElem?_append_right (by omega)] at hK
        have h2 := (List.getElem?_eq_some_iff.1 hK).1
        simp at h1 h2; omega
/-- cells vs laid over cs from place o on -/
def splice (cs : List Value) (o : Nat) (vs : List Value) : List Value := cs.take o ++ vs ++ cs.drop (o + vs.length)
theorem splice_length {cs : List Value} {o : Nat} {vs : List Value} (h : o + vs.length ≤ cs.length) : (splice cs o vs).length = cs.length := by
  simp [splice]; omega
theorem splice_append_left {A B vs : List Value} {o : Nat} (h : o + vs.length ≤ A.length) : splice (A ++ B) o vs = splice A o vs ++ B := by
  unfold splice
  rw [List.take_append_of_le_length (by omega), List.drop_append_of_le_length (by omega)]
  simp [List.append_assoc]
theorem splice_append_right {A B vs : List Value} {o : Nat} : splice (A ++ B) (A.length + o) vs = A ++ splice B o vs := by
  unfold splice
  rw [List.take_length_add_append, Nat.add_assoc, List.drop_length_add_append]
  simp [List.append_assoc]
section
variable {P : Program}
theorem addr_add (g o i : Nat) : (⟨g, o, none⟩ : Addr).add i = ⟨g, o + i, none⟩ := by unfold Addr.add; split <;> simp_all
theorem run_loadCells_blk {w : World} {b : Nat} {cs : List Value} (h : Blk w b cs) (off n : Nat) (hn : off + n ≤ cs.length) :
    (loadCells ⟨b, off, none⟩ n).run P w = .ok ((cs.drop off).take n).toArray w := by
  have hl : ((cs.drop off).take n).length = n := by simp; omega
  have := run_loadCells_list (P := P) w ⟨b, off, none⟩ ((cs.drop off).take n) (fun j v hv => by
    rw [addr_add]
    refine h.cell ?_
    rw [List.getElem?_take] at hv
    split at hv
    · rw [List.getElem?_drop] at hv; exact hv
    · cases hv)
  rw [hl] at this
  exact this
theorem run_storeCells_blk : ∀ (vs : List Value) (i : Nat) (cs : List Value) (w : World) (b off : Nat), Blk w b cs → off + i + vs.length ≤ cs.length → (∀ v ∈ vs, v.oneCell' = true) →
    ∃ w', (storeCells ⟨b, off, none⟩ vs i).run P w = .ok () w' ∧ Blk w' b (splice cs (off + i) vs) ∧ Only [b] w w' ∧ w'.heap.size = w.heap.size
  | [], i, cs, w, b, off, hb, _, _ => ⟨w, rfl, by simpa [splice] using hb, Only.refl _ _, rfl⟩
  | v :: rest, i, cs, w, b, off, hb, hl, h1 => by
    have hi : off + i < cs.length := by simp at hl; omega
    have hcell := hb.cell (o := off + i) (List.getElem?_eq_getElem hi)
    have hfro := hb.free (off + i) hi
    have hst : (store ((⟨b, off, none⟩ : Addr).add i) v).run P w = .ok () (w.setCell ⟨b, off + i, none⟩ v) := by
      rw [addr_add, run_store P w _ v _ (h1 v (by simp)), hcell]
      simp [hfro]
    obtain ⟨w', hr, hb', ho', hsz⟩ := run_storeCells_blk rest (i + 1) (cs.set (off + i) v) (w.setCell ⟨b, off + i, none⟩ v) b off (hb.set _ _) (by simp at hl ⊢; omega) (fun x hx => h1 x (by simp [hx]))
    refine ⟨w', ?_, ?_, ?_, by rw [hsz]; simp [World.setCell]⟩
    · simp only [storeCells, Sem.run_bind, hst, Result.andThen_ok, hr]
    · have e := list_seg_step cs (off + i) v rest (by simp at hl ⊢; omega)
      have e2 : splice (cs.set (off + i) v) (off + (i + 1)) rest = splice cs (off + i) (v :: rest) := by
        unfold splice; rw [← Nat.add_assoc]; simpa using e
      rwa [e2] at hb'
    · exact ((Only.refl [b] w).setCell (.inl (by simp)) v).trans1 ho'
/-- the operation o, carried out, gives v in the world w', and R holds of them -/
def does (P : Program) (o : Oper) (a : Act) (w : World) (R : Value → World → Prop) : Prop :=
  ∃ v w', ((execOp a.eval o).run P w = .ok (.value v) w' ∨ ((execOp a.eval o).run P w = .ok .skip w' ∧ v = undef)) ∧ R v w'
theorem does.mono {o : Oper} {a : Act} {w : World} {R R' : Value → World → Prop} (h : does P o a w R) (hr : ∀ v w', R v w' → R' v w') : does P o a w R' := by
  obtain ⟨v, w', h1, h2⟩ := h
  exact ⟨v, w', h1, hr v w' h2⟩
theorem wp_does {o : Oper} {a : Act} {w : World} {R : Value → World → Prop} {K : Act → World → Prop} {Q : Exit → Act → World → Prop}
    (h : does P o a w R) (hk : ∀ v w', R v w' → K (a.put o.dst v) w') : o.wp P a w K Q := by
  obtain ⟨v, w', h1, h2⟩ := h
  unfold Oper.wp
  rcases h1 with h1 | ⟨h1, rfl⟩
  · rw [h1]; exact hk v w' h2
  · rw [h1]; exact hk _ w' h2
theorem wpList_does {ops : Array Oper} {rest : List Oper} {o : Oper} {a : Act} {w : World} {Q : Exit → Act → World → Prop} {R : Value → World → Prop} (hg : o.guard = none)
    (h : does P o a w R) (hk : ∀ v w', R v w' → wpList P ops Q rest (a.put o.dst v) w') : wpList P ops Q (o :: rest) a w :=
  wpList_plain hg fun _ hK => wp_does h (fun v w' hr => hK _ _ (hk v w' hr))
def aggDesc : TypeDesc → Bool | .struct _ | .array _ _ => true | _ => false
theorem run_isAgg {t : TypeId} {d : TypeDesc} (hu : P.underlying t = some d) (hd : aggDesc d = true) (w : World) : (isAgg t).run P w = .ok true w := by
  unfold isAgg
  rw [Sem.run_bind, run_underlying hu w]
  cases d <;> simp_all [aggDesc]
theorem run_sizeOf {t : TypeId} {n : Nat} (hi : (P.info? t).map (·.size) = some n) (w : World) : (sizeOf t).run P w = .ok n w := by
  cases hq : P.info? t with
  | none => simp [hq] at hi
  | some i => have : i.size = n := by simpa [hq] using hi
              simp [sizeOf, typeInfo, hq, this]
/-- a struct or an array is stored into a row -/
theorem does_store {o : Oper} {a : Act} {w : World} (ty : TypeId) (x y : Operand) (ho : o.op = .store ty x y) {b off : Nat} (hx : a.eval x = .pointer (some ⟨b, off, none⟩))
    {vs : Array Value} (hy : a.eval y = .agg vs) {cs : List Value} (hb : Blk w b cs) {n : Nat} (hi : (P.info? ty).map (·.size) = some n) (hvs : vs.size = n) (hn : off + n ≤ cs.length)
    (h1 : ∀ v ∈ vs.toList, v.oneCell' = true) :
    does P o a w (fun v w' => v = undef ∧ Blk w' b (splice cs off vs.toList) ∧ Only [b] w w' ∧ w'.heap.size = w.heap.size) := by
  obtain ⟨w', hr, hb', ho', hsz⟩ := run_storeCells_blk (P := P) vs.toList 0 cs w b off hb (by simp [hvs]; omega) h1
  refine ⟨_, w', .inr ⟨?_, rfl⟩, rfl, hb', ho', hsz⟩
  have hsn : ((Value.agg vs).cells.size ≠ n) = False := by simp [Value.cells, hvs]
  simp [execOp, ho, hx, hy, Instr.storeAt, Instr.sureAddr, storeVar, run_sizeOf hi, Value.cells, hvs, hr]
theorem madeCells_toList (z : Array Value) : ∀ n, (madeCells z (n * z.size)).toList = (List.replicate n z.toList).flatten := by
  intro n
  apply List.ext_getElem?
  intro j
  simp only [madeCells, Array.toList_map, Array.toList_range, List.getElem?_map]
  induction n generalizing j with
  | zero => simp
  | succ n ih =>
    rw [List.replicate_succ, List.flatten_cons]
    by_cases hz : z.size = 0
    · have : z = #[] := by simpa using hz
      subst this
      have hr : ∀ n : Nat, (List.replicate n ([] : List Value)).flatten = [] := fun n => by induction n <;> simp_all [List.replicate_succ]
      simp [hr]
    · by_cases hj : j < z.size
      · rw [List.getElem?_append_left (by simpa using hj), List.getElem?_range (by rw [Nat.add_mul]; omega)]
        simp [Nat.mod_eq_of_lt hj, hj]
      · rw [List.getElem?_append_right (by simpa using hj)]
        have := ih (j - z.toList.length)
        rw [← this]
        simp only [Array.length_toList]
        by_cases hjj : j < (n + 1) * z.size
        · rw [List.getElem?_range hjj, List.getElem?_range (by rw [Nat.add_mul] at hjj; omega)]
          simp only [Option.map_some]
          rw [Nat.mod_eq_sub_mod (by omega)]
        · rw [List.getElem?_eq_none (by simpa using hjj), List.getElem?_eq_none (by simp; rw [Nat.add_mul] at hjj; omega)]
/-- make([]T, n) -/
theorem does_make {o : Oper} {a : Act} {w : World} (t : TypeId) (l c : Operand) (ho : o.op = .makeSlice t l c) {kl kc : IntKind} {L C : Int} {n m : Nat} (hl : a.eval l = .int kl L) (hc : a.eval c = .int kc C)
    (hL : L = (n : Int)) (hC : C = (m : Int)) (hnm : n ≤ m) {e : TypeId} {z : Value} {size bytes : Nat} (hu : P.underlying t = some (.slice e)) (hi : (P.info? e).map (fun i => (i.zero, i.size, i.bytes)) = some (some z, size, bytes)) (hz : z.cells.size = size)
    (hb : bytes * m ≤ 281474976710656) (hm : m ≤ 9223372036854775807) :
    does P o a w (fun v w' => v = .slice (some ⟨w.heap.size, 0, none⟩) n m ∧ Blk w' w.heap.size (List.replicate m z.cells.toList).flatten ∧ Only [] w w' ∧ w'.heap.size = w.heap.size + 1) := by
  obtain ⟨i, hi1, hi2, hi3, hi4⟩ := info_parts hi
  subst hL hC
  have hb' : (i.bytes : Int) * (m : Int) ≤ 281474976710656 := by
    rw [hi4]
    have h : ((bytes * m : Nat) : Int) ≤ 281474976710656 := by omega
    rwa [Int.natCast_mul] at h
  have hr := run_make (P := P) w t e i z hu hi1 hi2 kl kc n m (by omega) (by omega) hb' (by omega)
  refine ⟨.slice (some ⟨w.heap.size, 0, none⟩) n m, w.alloc (.cells (madeCells z.cells (m * i.size)) e), .inl (by simp [execOp, ho, hl, hc, hr]), rfl, ?_, (Only.refl _ _).alloc _, by simp⟩
  have := Blk.new' w (madeCells z.cells (m * i.size)) e
  rw [hi3, ← hz, madeCells_toList] at this
  rw [hi3, ← hz]
  exact this
theorem flat_len (n : Nat) (l : List Value) : (List.replicate n l).flatten.length = n * l.length := by simp
/-- bytes as cells -/
def bytesV (l : List UInt8) : List Value := l.map fun c => .int .u8 (c.toNat : Int)
theorem bytesV_length (l : List UInt8) : (bytesV l).length = l.length := by simp [bytesV]
theorem bytesV_get (l : List UInt8) (j : Nat) : (bytesV l)[j]? = l[j]?.map fun c => .int .u8 (c.toNat : Int) := by simp [bytesV]
/-- v is a slice of n elements of 'size' cells: nil, or at the head of a row of its own whose first cells are xs; foot: the row's block -/
def Own (w : World) (v : Value) (n size : Nat) (xs : List Value) (foot : List Nat) : Prop :=
  xs.length = n * size ∧
  ((v = .slice none 0 0 ∧ n = 0 ∧ foot = []) ∨
   ∃ b cap sp, v = .slice (some ⟨b, 0, none⟩) n cap ∧ n ≤ cap ∧ Blk w b (xs ++ sp) ∧ (xs ++ sp).length = cap * size ∧ foot = [b])
theorem Own.nil (w : World) (size : Nat) : Own w (.slice none 0 0) 0 size [] [] := ⟨by simp, .inl ⟨rfl, rfl, rfl⟩⟩
theorem Own.lt {w : World} {v : Value} {n size : Nat} {xs : List Value} {foot : List Nat} (h : Own w v n size xs foot) : ∀ k ∈ foot, k < w.heap.size := by
  obtain ⟨_, ⟨_, _, rfl⟩ | ⟨b, cap, sp, _, _, hb, _, rfl⟩⟩ := h
  · intro k hk; cases hk
  · intro k hk; simp only [List.mem_singleton] at hk; subst hk; exact hb.lt
theorem Own.congr {w w' : World} {v : Value} {n size : Nat} {xs : List Value} {foot : List Nat} (h : Own w v n size xs foot) (hk : ∀ k ∈ foot, w'.heap[k]? = w.heap[k]?) : Own w' v n size xs foot := by
  obtain ⟨hl, ⟨h1, h2, rfl⟩ | ⟨b, cap, sp, h1, h2, hb, h3, rfl⟩⟩ := h
  · exact ⟨hl, .inl ⟨h1, h2, rfl⟩⟩
  · exact ⟨hl, .inr ⟨b, cap, sp, h1, h2, hb.congr (hk b (by simp)), h3, rfl⟩⟩
theorem Only.own {S : List Nat} {w w' : World} {v : Value} {n size : Nat} {xs : List Value} {foot : List Nat} (h : Only S w w') (ho : Own w v n size xs foot) (hn : ∀ k ∈ foot, k ∉ S) : Own w' v n size xs foot :=
  ho.congr fun k hk => h.block k (ho.lt k hk) (hn k hk)
theorem Own.shape {w : World} {v : Value} {n size : Nat} {xs : List Value} {foot : List Nat} (h : Own w v n size xs foot) : ∃ a cap, v = .slice a n cap ∧ n ≤ cap := by
  obtain ⟨_, ⟨rfl, rfl, _⟩ | ⟨b, cap, sp, rfl, hc, _⟩⟩ := h
  · exact ⟨_, _, rfl, Nat.le_refl _⟩
  · exact ⟨_, _, rfl, hc⟩
/-- an element is there: its row -/
theorem Own.row {w : World} {v : Value} {n size : Nat} {xs : List Value} {foot : List Nat} (h : Own w v n size xs foot) (hn : 0 < n) :
    ∃ b cap sp, v = .slice (some ⟨b, 0, none⟩) n cap ∧ n ≤ cap ∧ Blk w b (xs ++ sp) ∧ foot = [b] := by
  obtain ⟨_, ⟨_, rfl, _⟩ | ⟨b, cap, sp, rfl, hc, hb, _, hf⟩⟩ := h
  · omega
  · exact ⟨b, cap, sp, rfl, hc, hb, hf⟩
theorem Own.cell {w : World} {b o n n' cap size : Nat} {xs : List Value} {foot : List Nat} (h : Own w (.slice (some ⟨b, o, none⟩) n' cap) n size xs foot) {j : Nat} {v : Value} (hv : xs[j]? = some v) : w.cell? ⟨b, j, none⟩ = some v := by
  obtain ⟨_, ⟨h0, _⟩ | ⟨b', cap', sp, h0, hc, hb, _, hf⟩⟩ := h
  · cases h0
  · cases h0
    exact hb.cell (by rw [List.getElem?_append_left (List.getElem?_eq_some_iff.1 hv).1]; exact hv)
theorem run_firstCells_blk {w : World} {b : Nat} {cs : List Value} (h : Blk w b cs) (size m off len cap : Nat) (hn : off + m * size ≤ cs.length) :
    (Builtin.firstCells size m (.slice (some ⟨b, off, none⟩) len cap)).run P w = .ok ((cs.drop off).take (m * size)).toArray w := by
  simp only [Builtin.firstCells]
  exact run_loadCells_blk h off (m * size) hn
theorem lenOf_slice (a : Option Addr) (n c : Nat) : ∀ w1 : World, (Builtin.lenOf (.slice a n c)).run P w1 = .ok n w1 := fun _ => rfl
theorem append_room {P : Program} {w : World} {b n cap size m : Nat} {xs sp news : List Value} {t t2 ty e : TypeId} {i : TypeInfo} {xv : Value} {d2 : TypeDesc}
    (hu : P.underlying t = some (.slice e)) (hu2 : P.underlying t2 = some d2) (hd2 : ∀ k, d2 ≠ .int k) (hi : P.info? e = some i) (hsz : i.size = size)
    (hx1 : ∀ w1, (Builtin.lenOf xv).run P w1 = .ok m w1) (hx2 : (Builtin.firstCells size m xv).run P w = .ok news.toArray w)
    (hl : xs.length = n * size) (hnl : news.length = m * size) (h1 : ∀ v ∈ news, v.oneCell' = true) (hb : Blk w b (xs ++ sp)) (hlen : (xs ++ sp).length = cap * size) (hroom : n + m ≤ cap) :
    ∃ w', (Builtin.append_ #[t, t2] ty #[.slice (some ⟨b, 0, none⟩) n cap, xv]).run P w = .ok (.slice (some ⟨b, 0, none⟩) (n + m) cap) w' ∧ Blk w' b (xs ++ news ++ sp.drop (m * size)) ∧ Only [b] w w' ∧ w'.heap.size = w.heap.size := by
  have hfit : n * size + m * size ≤ cap * size := by rw [← Nat.add_mul]; exact Nat.mul_le_mul_right _ hroom
  obtain ⟨w', hr, hb', ho', hs'⟩ := run_storeCells_blk (P := P) news 0 (xs ++ sp) w b (n * size) hb (by omega) h1
  have he : splice (xs ++ sp) (n * size + 0) news = xs ++ news ++ sp.drop (m * size) := by
    unfold splice
    rw [Nat.add_zero, ← hl, List.take_left, List.drop_append]
    simp [hnl]
  rw [he] at hb'
  refine ⟨w', ?_, hb', ho', hs'⟩
  have hint : ((match d2 with | .int _ => true | _ => false) : Bool) = false := by cases d2 <;> first | rfl | exact absurd rfl (hd2 _)
  subst hsz
  simp [Builtin.append_, run_underlying hu, run_underlying hu2, hint, sizeOf, typeInfo, hi, hx1, hx2, hroom, addr_add, hr]
theorem append_grows {P : Program} {w : World} {base : Option Addr} {n cap size bytes m : Nat} {xs news : List Value} {t t2 ty e : TypeId} {i : TypeInfo} {z xv : Value} {d2 : TypeDesc}
    (hu : P.underlying t = some (.slice e)) (hu2 : P.underlying t2 = some d2) (hd2 : ∀ k, d2 ≠ .int k) (hi : P.info? e = some i) (hsz : i.size = size) (hz : i.zero = some z) (hzs : z.cells.size = size) (hby : i.bytes = bytes)
    (hx1 : ∀ w1, (Builtin.lenOf xv).run P w1 = .ok m w1) (hx2 : (Builtin.firstCells size m xv).run P w.drew = .ok news.toArray w.drew)
    (hold : (Builtin.firstCells size n (.slice base n cap)).run P w.drew = .ok xs.toArray w.drew)
    (hl : xs.length = n * size) (hnl : news.length = m * size) (hroom : ¬ n + m ≤ cap) (hbytes : (n + m) * bytes ≤ 140737488355328) (hmax : n + m ≤ 9223372036854775807) :
    ∃ w' cap' sp, (Builtin.append_ #[t, t2] ty #[.slice base n cap, xv]).run P w = .ok (.slice (some ⟨w.heap.size, 0, none⟩) (n + m) cap') w' ∧ n + m ≤ cap' ∧ Blk w' w.heap.size (xs ++ news ++ sp) ∧
      (xs ++ news ++ sp).length = cap' * size ∧ Only [] w w' ∧ w'.heap.size = w.heap.size + 1 := by
  have hint : ((match d2 with | .int _ => true | _ => false) : Bool) = false := by cases d2 <;> first | rfl | exact absurd rfl (hd2 _)
  have hge := grownCap_ge w (n + m) cap e
  refine ⟨w.drew.alloc (.cells (xs.toArray ++ news.toArray ++ Builtin.zeroCells z.cells (grownCap w (n + m) cap e - (n + m))) e), grownCap w (n + m) cap e, (Builtin.zeroCells z.cells (grownCap w (n + m) cap e - (n + m))).toList, ?_, hge, ?_, ?_, ((Only.refl _ _).drew).alloc _, by simp⟩
  · subst hsz hby
    have h48 : ¬ (281474976710656 < Builtin.nextslicecap (n + m) cap * i.bytes) := by have := growslice_fits (need := n + m) (old := cap) (bytes := i.bytes) (by omega) hbytes; omega
    have hmx' : ¬ (9223372036854775807 < (n : Int) + (m : Int) ∧ i.bytes = 0) := by omega
    have hzv : ∀ w1, (zeroValue e).run P w1 = .ok z w1 := fun w1 => by simp [zeroValue, typeInfo, hi, hz]
    simp [Builtin.append_, run_underlying hu, run_underlying hu2, hint, sizeOf, typeInfo, hi, hx1, hroom, h48, hmx', hzv, hx2, hold, Question.forced, newRow, grownCap]
    rw [← Array.append_assoc]; simp
  · have := Blk.new' w.drew (xs.toArray ++ news.toArray ++ Builtin.zeroCells z.cells (grownCap w (n + m) cap e - (n + m))) e
    simpa using this
  · simp only [List.length_append, Array.length_toList, size_zeroCells, hzs, hl, hnl, ← Nat.add_mul]
    congr 1; omega
/-- append(s, x...): s is nil or has a row of its own -/
theorem does_append {o : Oper} {a : Act} {w : World} (t t2 : TypeId) (s x : Operand) (ho : o.op = .call { callee := .builtin .append, args := #[s, x], argTypes := #[t, t2] })
    {sv xv : Value} (hs : a.eval s = sv) (hx : a.eval x = xv) {n size bytes m : Nat} {xs news : List Value} {foot : List Nat} (hown : Own w sv n size xs foot)
    {e : TypeId} {z : Value} {d2 : TypeDesc} (hu : P.underlying t = some (.slice e)) (hu2 : P.underlying t2 = some d2) (hd2 : ∀ k, d2 ≠ .int k)
    (hi : (P.info? e).map (fun i => (i.zero, i.size, i.bytes)) = some (some z, size, bytes)) (hzs : z.cells.size = size) (h0 : 0 < size)
    (hx1 : ∀ w1, (Builtin.lenOf xv).run P w1 = .ok m w1) (hx2 : ∀ w1 : World, w1.heap = w.heap → (Builtin.firstCells size m xv).run P w1 = .ok news.toArray w1)
    (hnl : news.length = m * size) (h1 : ∀ v ∈ news, v.oneCell' = true) (hbytes : (n + m) * bytes ≤ 140737488355328) (hmax : n + m ≤ 9223372036854775807) :
    does P o a w (fun v w' => ∃ foot', Own w' v (n + m) size (xs ++ news) foot' ∧ Only foot w w' ∧ (∀ k ∈ foot', k ∈ foot ∨ w.heap.size ≤ k) ∧ (v = .slice none 0 0 → sv = .slice none 0 0)) := by
  obtain ⟨i, hi1, hi2, hi3, hi4⟩ := info_parts hi
  have hll : (xs ++ news).length = (n + m) * size := by rw [List.length_append, hown.1, hnl, Nat.add_mul]
  have hex : ∀ v w', (Builtin.append_ #[t, t2] o.type #[sv, xv]).run P w = .ok v w' → (execOp a.eval o).run P w = .ok (.value v) w' := fun v w' hr => by
    simp [execOp, ho, hs, hx, resolve, invoke, builtin, hr]
  obtain ⟨hl, ⟨rfl, rfl, rfl⟩ | ⟨b, cap, sp, rfl, hc, hb, hlen, rfl⟩⟩ := hown
  · have hxs : xs = [] := List.eq_nil_of_length_eq_zero (by simpa using hl)
    subst hxs
    by_cases hm : m = 0
    · subst hm
      have hn : news = [] := List.eq_nil_of_length_eq_zero (by simpa using hnl)
      subst hn
      refine ⟨.slice none 0 0, w, .inl (hex _ _ ?_), [], Own.nil w size, Only.refl _ _, by simp, fun h => h⟩
      have hint : ((match d2 with | .int _ => true | _ => false) : Bool) = false := by cases d2 <;> first | rfl | exact absurd rfl (hd2 _)
      subst hi3
      simp [Builtin.append_, run_underlying hu, run_underlying hu2, hint, sizeOf, typeInfo, hi1, hx1, hx2 w rfl]
    · obtain ⟨w', cap', sp, hr, hc', hb', hl', ho', hs'⟩ := append_grows (P := P) (w := w) (base := none) (n := 0) (cap := 0) (ty := o.type) hu hu2 hd2 hi1 hi3 hi2 hzs hi4 hx1 (hx2 w.drew rfl) (xs := []) (by simp [Builtin.firstCells]) (by simp) hnl (by omega) hbytes hmax
      exact ⟨_, w', .inl (hex _ _ hr), [w.heap.size], ⟨hll, .inr ⟨_, cap', sp, rfl, hc', hb', hl', rfl⟩⟩, ho', by simp, fun _ => rfl⟩
  · by_cases hroom : n + m ≤ cap
    · obtain ⟨w', hr, hb', ho', hs'⟩ := append_room (P := P) (ty := o.type) hu hu2 hd2 hi1 hi3 hx1 (hx2 w rfl) hl hnl h1 hb hlen hroom
      refine ⟨_, w', .inl (hex _ _ hr), [b], ⟨hll, .inr ⟨b, cap, sp.drop (m * size), rfl, hroom, hb', ?_, rfl⟩⟩, ho', by simp, fun h => by cases h⟩
      have hfit : n * size + m * size ≤ cap * size := by rw [← Nat.add_mul]; exact Nat.mul_le_mul_right _ hroom
      simp only [List.length_append, List.length_drop, hnl, hl] at hlen ⊢
      omega
    · have hold := run_firstCells_blk (P := P) (w := w.drew) (b := b) (cs := xs ++ sp) hb size n 0 n cap (by simp [hl])
      simp only [List.drop_zero] at hold
      rw [← hl, List.take_left] at hold
      obtain ⟨w', cap', sp', hr, hc', hb', hl', ho', hs'⟩ := append_grows (P := P) (w := w) (ty := o.type) hu hu2 hd2 hi1 hi3 hi2 hzs hi4 hx1 (hx2 w.drew rfl) hold hl hnl hroom hbytes hmax
      exact ⟨_, w', .inl (hex _ _ hr), [w.heap.size], ⟨hll, .inr ⟨_, cap', sp', rfl, hc', hb', hl', rfl⟩⟩, ho'.mono (by simp), by simp, fun h => by cases h⟩
theorem Own.alloc {w : World} {v : Value} {n size : Nat} {xs : List Value} {foot : List Nat} (h : Own w v n size xs foot) (o : Obj) : Own (w.alloc o) v n size xs foot :=
  h.congr fun k hk => Below.heap_alloc _ _ _ (h.lt k hk)
/-- something that lies in the blocks of foot and says φ of them alone -/
structure Ast where
  foot : List Nat
  φ : World → Prop
  fr : ∀ w w' : World, (∀ k ∈ foot, w'.heap[k]? = w.heap[k]?) → φ w → φ w'
def ownA (v : Value) (n size : Nat) (xs : List Value) (foot : List Nat) : Ast := ⟨foot, fun w => Own w v n size xs foot, fun _ _ hk h => h.congr hk⟩
def blkA (b : Nat) (cs : List Value) : Ast := ⟨[b], fun w => Blk w b cs, fun _ _ hk h => h.congr (hk b (by simp))⟩
/-- what was there in W is as it was; the things As lie apart from it and from each other -/
structure Sepd (W w : World) (As : List Ast) : Prop where
  bel : Below W.heap.size W w
  ap : Apart W.heap.size w.heap.size (As.map (·.foot))
  all : ∀ A ∈ As, A.φ w
theorem Sepd.get {W w : World} {As : List Ast} (h : Sepd W w As) (i : Nat) {A : Ast} (hi : As[i]? = some A) : A.φ w := h.all A (List.mem_of_getElem? hi)
theorem Sepd.own {W w : World} {As : List Ast} (h : Sepd W w As) (i : Nat) {v : Value} {n size : Nat} {xs : List Value} {f : List Nat} (hi : As[i]? = some (ownA v n size xs f)) : Own w v n size xs f := h.get i hi
theorem Sepd.blk {W w : World} {As : List Ast} (h : Sepd W w As) (i : Nat) {b : Nat} {cs : List Value} (hi : As[i]? = some (blkA b cs)) : Blk w b cs := h.get i hi
theorem Sepd.start (W : World) : Sepd W W [] := ⟨Below.refl _ _, Apart.nil _ _, by simp⟩
theorem Sepd.le {W w : World} {As : List Ast} (h : Sepd W w As) : W.heap.size ≤ w.heap.size := h.bel.size
theorem Sepd.dis {W w : World} {As : List Ast} (h : Sepd W w As) (i j : Nat) {A B : Ast} (hij : i ≠ j) (hi : As[i]? = some A) (hj : As[j]? = some B) : ∀ k ∈ A.foot, k ∉ B.foot :=
  h.ap.dis i j A.foot B.foot hij (by simp [hi]) (by simp [hj])
/-- nothing that was there has changed -/
theorem Sepd.only {W w w' : World} {As : List Ast} (h : Sepd W w As) (ho : Only [] w w') : Sepd W w' As :=
  ⟨ho.belowB h.bel (by simp) h.le, h.ap.grow ho.size, fun A hA => A.fr w w' (fun k hk => ho.block k (h.ap.hi A.foot (List.mem_map_of_mem hA) k hk) (by simp)) (h.all A hA)⟩
theorem Sepd.alloc {W w : World} {As : List Ast} (h : Sepd W w As) (o : Obj) : Sepd W (w.alloc o) As := h.only ((Only.refl [] w).alloc o)
theorem Sepd.drew {W w : World} {As : List Ast} (h : Sepd W w As) : Sepd W w.drew As := h.only (Only.refl [] w).drew
/-- a step has changed the thing in place i, and nothing else -/
theorem Sepd.upd {W w w' : World} {As : List Ast} (h : Sepd W w As) (i : Nat) {A A' : Ast} (hi : As[i]? = some A) (ho : Only A.foot w w') (hφ : A'.φ w') (hf : ∀ k ∈ A'.foot, k ∈ A.foot ∨ w.heap.size ≤ k) (hlt : ∀ k ∈ A'.foot, k < w'.heap.size) :
    Sepd W w' (As.set i A') := by
  have hAm : A ∈ As := List.mem_of_getElem? hi
  refine ⟨ho.belowB h.bel (fun k hk => h.ap.lo A.foot (List.mem_map_of_mem hAm) k hk) h.le, ?_, fun B hB => ?_⟩
  · rw [List.map_set]
    exact h.ap.upd i (by simp [hi]) hf hlt ho.size h.le
  · obtain ⟨j, hj⟩ := List.mem_iff_getElem?.1 hB
    rw [List.getElem?_set] at hj
    by_cases hij : i = j
    · subst hij
      rw [if_pos rfl, if_pos (List.getElem?_eq_some_iff.1 hi).1] at hj
      cases hj
      exact hφ
    · rw [if_neg hij] at hj
      have hBm : B ∈ As := List.mem_of_getElem? hj
      exact B.fr w w' (fun k hk => ho.block k (h.ap.hi B.foot (List.mem_map_of_mem hBm) k hk) (h.dis j i (fun e => hij e.symm) hj hi k hk)) (h.all B hBm)
/-- a new thing in new blocks -/
theorem Sepd.add {W w w' : World} {As : List Ast} (h : Sepd W w As) (ho : Only [] w w') {A' : Ast} (hφ : A'.φ w') (hf : ∀ k ∈ A'.foot, w.heap.size ≤ k) (hlt : ∀ k ∈ A'.foot, k < w'.heap.size) : Sepd W w' (As ++ [A']) := by
  have h1 := h.only ho
  refine ⟨h1.bel, ?_, fun B hB => ?_⟩
  · rw [List.map_append]
    exact h.ap.add hf hlt ho.size h.le
  · rcases List.mem_append.1 hB with h2 | h2
    · exact h1.all B h2
    · simp only [List.mem_singleton] at h2; subst h2; exact hφ
end
end Go.Proofs.YtcbdclhoekokpaaGreatDoor.M
/- A logic of separate things over whatever program: what lies in memory ('Th', 'Sat'), what is known of a frame ('Fr'), and rules that walk code by its text. Conditions: each rule's own hypotheses. -/
namespace Go.Proofs.YtcbdclhoekokpaaGreatDoor.M
open Go.RowKit
/-! ### things in memory -/
/-- the blocks of F, and everything but the heap, are as they were -/
structure Agree (F : Nat → Prop) (w w' : World) : Prop where
  os : w'.os = w.os
  tape : w'.tape = w.tape
  output : w'.output = w.output
  blk : ∀ k, F k → w'.heap[k]? = w.heap[k]?
/-- a thing: what it says of a world and of the blocks that it owns -/
structure Th where
  at_ : World → (Nat → Prop) → Prop
  fr : ∀ {w w' F}, Agree F w w' → at_ w F → at_ w' F
  lt : ∀ {w F}, at_ w F → ∀ k, F k → k < w.heap.size
def empT : Th := ⟨fun _ F => F = fun _ => False, fun _ h => h, fun h k hk => by subst h; exact hk.elim⟩
def pureT (φ : Prop) : Th := ⟨fun _ F => (F = fun _ => False) ∧ φ, fun _ h => h, fun h k hk => by obtain ⟨rfl, _⟩ := h; exact hk.elim⟩
def exT {α : Type} (f : α → Th) : Th := ⟨fun w F => ∃ x, (f x).at_ w F, fun a ⟨x, h⟩ => ⟨x, (f x).fr a h⟩, fun ⟨x, h⟩ k hk => (f x).lt h k hk⟩
def starT (A B : Th) : Th where
  at_ := fun w F => ∃ F1 F2, F = (fun k => F1 k ∨ F2 k) ∧ (∀ k, F1 k → F2 k → False) ∧ A.at_ w F1 ∧ B.at_ w F2
  fr := fun a ⟨F1, F2, e, d, h1, h2⟩ => by
    subst e
    exact ⟨F1, F2, rfl, d, A.fr ⟨a.os, a.tape, a.output, fun k hk => a.blk k (.inl hk)⟩ h1, B.fr ⟨a.os, a.tape, a.output, fun k hk => a.blk k (.inr hk)⟩ h2⟩
  lt := fun ⟨F1, F2, e, _, h1, h2⟩ k hk => by
    subst e
    rcases hk with hk | hk
    · exact A.lt h1 k hk
    · exact B.lt h2 k hk
def starL : List Th → Th
  | [] => empT
  | A :: As => starT A (starL As)
def Sat (w : World) (As : List Th) : Prop := ∃ F, (starL As).at_ w F
theorem starT_lcomm {A B C : Th} {w : World} {F : Nat → Prop} (h : (starT A (starT B C)).at_ w F) : (starT B (starT A C)).at_ w F := by
  obtain ⟨F1, F2, rfl, d, h1, G1, G2, rfl, e, h2, h3⟩ := h
  exact ⟨G1, fun k => F1 k ∨ G2 k, funext fun k => propext ⟨by rintro (a | a | a) <;> simp [a], by rintro (a | a | a) <;> simp [a]⟩,
    fun k a b => by rcases b with b | b; exact d k b (.inl a); exact e k a b, h2, F1, G2, rfl, fun k a b => d k a (.inr b), h1, h3⟩
theorem starT_mono {A B B' : Th} {w : World} (hb : ∀ F, B.at_ w F → B'.at_ w F) {F : Nat → Prop} (h : (starT A B).at_ w F) : (starT A B').at_ w F := by
  obtain ⟨F1, F2, rfl, d, h1, h2⟩ := h
  exact ⟨F1, F2, rfl, d, h1, hb _ h2⟩
theorem starL_perm {As Bs : List Th} (hp : As.Perm Bs) {w : World} : ∀ {F : Nat → Prop}, (starL As).at_ w F → (starL Bs).at_ w F := by
  induction hp with
  | nil => exact fun h => h
  | cons A _ ih => exact fun h => starT_mono (fun _ => ih) h
  | swap A B l => exact fun h => starT_lcomm h
  | trans _ _ ih1 ih2 => exact fun h => ih2 (ih1 h)
theorem Sat.perm {w : World} {As Bs : List Th} (h : Sat w As) (hp : As.Perm Bs) : Sat w Bs := let ⟨F, h⟩ := h; ⟨F, starL_perm hp h⟩
theorem starL_append {As Bs : List Th} {w : World} {F : Nat → Prop} : (starL (As ++ Bs)).at_ w F ↔ (starT (starL As) (starL Bs)).at_ w F := by
  induction As generalizing F with
  | nil =>
    constructor
    · intro h; exact ⟨fun _ => False, F, funext fun k => by simp, fun _ a _ => a, rfl, h⟩
    · rintro ⟨F1, F2, rfl, _, h1, h2⟩
      have : F1 = fun _ => False := h1
      subst this
      simpa using h2
  | cons A As ih =>
    constructor
    · rintro ⟨F1, F2, rfl, d, h1, h2⟩
      obtain ⟨G1, G2, rfl, e, g1, g2⟩ := ih.1 h2
      exact ⟨fun k => F1 k ∨ G1 k, G2, funext fun k => propext ⟨by rintro (a | a | a) <;> simp [a], by rintro ((a | a) | a) <;> simp [a]⟩,
        fun k a b => by rcases a with a | a; exact d k a (.inr b); exact e k a b, ⟨F1, G1, rfl, fun k a b => d k a (.inl b), h1, g1⟩, g2⟩
    · rintro ⟨F1, F2, rfl, d, ⟨G1, G2, rfl, e, g1, g2⟩, h2⟩
      exact ⟨G1, fun k => G2 k ∨ F2 k, funext fun k => propext ⟨by rintro ((a | a) | a) <;> simp [a], by rintro (a | a | a) <;> simp [a]⟩,
        fun k a b => by rcases b with b | b; exact e k a b; exact d k (.inl a) b, g1, ih.2 ⟨G2, F2, rfl, fun k a b => d k (.inr a) b, g2, h2⟩⟩
/-- a thing that is many, taken apart and put together -/
theorem Sat.flat {w : World} {As Bs : List Th} (h : Sat w (starL As :: Bs)) : Sat w (As ++ Bs) := let ⟨F, h⟩ := h; ⟨F, starL_append.2 h⟩
theorem Sat.fold {w : World} {As Bs : List Th} (h : Sat w (As ++ Bs)) : Sat w (starL As :: Bs) := let ⟨F, h⟩ := h; ⟨F, starL_append.1 h⟩
theorem perm_pull {As : List Th} {i : Nat} {A : Th} (hi : As[i]? = some A) : As.Perm (A :: As.eraseIdx i) := by
  induction As generalizing i with
  | nil => simp at hi
  | cons C As ih =>
    cases i with
    | zero => simp at hi; subst hi; simp
    | succ i =>
      simp only [List.eraseIdx_cons_succ]
      exact ((ih (by simpa using hi)).cons C).trans (List.Perm.swap _ _ _)
theorem set_perm {As : List Th} {i : Nat} {A B : Th} (hi : As[i]? = some A) : (B :: As.eraseIdx i).Perm (As.set i B) := by
  induction As generalizing i with
  | nil => simp at hi
  | cons C As ih =>
    cases i with
    | zero => simp
    | succ i =>
      simp only [List.eraseIdx_cons_succ, List.set_cons_succ]
      exact (List.Perm.swap _ _ _).trans ((ih (by simpa using hi)).cons C)
theorem Sat.pull {w : World} {As : List Th} (h : Sat w As) (i : Nat) {A : Th} (hi : As[i]? = some A) : Sat w (A :: As.eraseIdx i) := h.perm (perm_pull hi)
theorem Sat.put {w : World} {As : List Th} {A B : Th} (i : Nat) (hi : As[i]? = some A) (h : Sat w (B :: As.eraseIdx i)) : Sat w (As.set i B) := h.perm (set_perm hi)
theorem Sat.get {w : World} {As : List Th} (h : Sat w As) (i : Nat) {A : Th} (hi : As[i]? = some A) : ∃ F, A.at_ w F := by
  obtain ⟨F, F1, F2, _, _, h1, _⟩ := h.pull i hi
  exact ⟨F1, h1⟩
/-- a step has changed the first thing, and made new blocks -/
theorem Sat.step0 {w w' : World} {A A' : Th} {As : List Th} (h : Sat w (A :: As)) (hst : ∀ F, A.at_ w F → ∃ F', A'.at_ w' F' ∧ (∀ k, F' k → F k ∨ w.heap.size ≤ k) ∧ Agree (fun k => k < w.heap.size ∧ ¬ F k) w w') : Sat w' (A' :: As) := by
  obtain ⟨F, F1, F2, rfl, d, h1, h2⟩ := h
  obtain ⟨F', g1, g2, ag⟩ := hst F1 h1
  have lt2 := (starL As).lt h2
  refine ⟨_, F', F2, rfl, fun k a b => ?_, g1, (starL As).fr ⟨ag.os, ag.tape, ag.output, fun k hk => ag.blk k ⟨lt2 k hk, fun hf => d k hf hk⟩⟩ h2⟩
  rcases g2 k a with hf | hf
  · exact d k hf b
  · have := lt2 k b; omega
theorem Sat.step {w w' : World} {As : List Th} (h : Sat w As) (i : Nat) {A A' : Th} (hi : As[i]? = some A) (hst : ∀ F, A.at_ w F → ∃ F', A'.at_ w' F' ∧ (∀ k, F' k → F k ∨ w.heap.size ≤ k) ∧ Agree (fun k => k < w.heap.size ∧ ¬ F k) w w') : Sat w' (As.set i A') :=
  Sat.put i hi ((h.pull i hi).step0 hst)
/-- nothing that was there has changed; a new thing -/
theorem Sat.new {w w' : World} {As : List Th} (h : Sat w As) (ho : Only [] w w') {A : Th} {F' : Nat → Prop} (hA : A.at_ w' F') (hF : ∀ k, F' k → w.heap.size ≤ k) : Sat w' (A :: As) := by
  obtain ⟨F, h⟩ := h
  have lt := (starL As).lt h
  refine ⟨_, F', F, rfl, fun k a b => ?_, hA, (starL As).fr ⟨ho.os, ho.tape, ho.output, fun k hk => ho.block k (lt k hk) (by simp)⟩ h⟩
  have := hF k a; have := lt k b; omega
theorem Sat.only {w w' : World} {As : List Th} (h : Sat w As) (ho : Only [] w w') : Sat w' As := by
  obtain ⟨F, h⟩ := h
  have lt := (starL As).lt h
  exact ⟨F, (starL As).fr ⟨ho.os, ho.tape, ho.output, fun k hk => ho.block k (lt k hk) (by simp)⟩ h⟩
theorem Sat.ex {w : World} {α : Type} {f : α → Th} {As : List Th} (h : Sat w (exT f :: As)) : ∃ x, Sat w (f x :: As) := by
  obtain ⟨F, F1, F2, e, d, ⟨x, h1⟩, h2⟩ := h
  exact ⟨x, F, F1, F2, e, d, h1, h2⟩
theorem Sat.ex_intro {w : World} {α : Type} {f : α → Th} {As : List Th} (x : α) (h : Sat w (f x :: As)) : Sat w (exT f :: As) := by
  obtain ⟨F, F1, F2, e, d, h1, h2⟩ := h
  exact ⟨F, F1, F2, e, d, ⟨x, h1⟩, h2⟩
theorem Sat.pure_elim {w : World} {φ : Prop} {As : List Th} (h : Sat w (pureT φ :: As)) : φ ∧ Sat w As := by
  obtain ⟨F, F1, F2, e, d, ⟨rfl, hp⟩, h2⟩ := h
  exact ⟨hp, F2, h2⟩
theorem Sat.pure_intro {w : World} {φ : Prop} {As : List Th} (hp : φ) (h : Sat w As) : Sat w (pureT φ :: As) := by
  obtain ⟨F, h⟩ := h
  exact ⟨F, fun _ => False, F, funext fun k => by simp, fun _ a _ => a, ⟨rfl, hp⟩, h⟩
/-- things are dropped -/
theorem Sat.tail {w : World} {A : Th} {As : List Th} (h : Sat w (A :: As)) : Sat w As := by
  obtain ⟨F, F1, F2, e, d, h1, h2⟩ := h
  exact ⟨F2, h2⟩
theorem Sat.drop {w : World} {As : List Th} (h : Sat w As) (i : Nat) {A : Th} (hi : As[i]? = some A) : Sat w (As.eraseIdx i) := (h.pull i hi).tail
/-- the things at the places is, and the others, by a mask -/
def nthA : List Th → Nat → Th
  | A :: _, 0 => A
  | _ :: As, i + 1 => nthA As i
  | [], _ => empT
def pickA (As : List Th) : List Nat → List Th
  | [] => []
  | i :: is => nthA As i :: pickA As is
def selF : List Bool → List Th → List Th
  | true :: m, _ :: As => selF m As
  | false :: m, A :: As => A :: selF m As
  | [], As => As
  | _ :: _, [] => []
def trues : Nat → List Bool → List Nat
  | _, [] => []
  | i, true :: m => i :: trues (i + 1) m
  | i, false :: m => trues (i + 1) m
/-- is: a reordering of the mask's places -/
def maskOk (k : Nat) (is : List Nat) (m : List Bool) : Bool := decide (m.length ≤ k) && decide (is.length = (trues 0 m).length) && (trues 0 m).all (is.contains ·) && is.all ((trues 0 m).contains ·) && decide (is.Nodup)
theorem trues_lt : ∀ (m : List Bool) (k i : Nat), i ∈ trues k m → k ≤ i ∧ i < k + m.length
  | [], k, i, h => by simp [trues] at h
  | true :: m, k, i, h => by
    simp only [trues, List.mem_cons] at h
    rcases h with rfl | h
    · simp
    · have := trues_lt m (k + 1) i h; simp; omega
  | false :: m, k, i, h => by
    have := trues_lt m (k + 1) i h; simp; omega
theorem trues_nodup : ∀ (m : List Bool) (k : Nat), (trues k m).Nodup
  | [], _ => List.nodup_nil
  | true :: m, k => by
    simp only [trues, List.nodup_cons]
    exact ⟨fun h => by have := trues_lt m (k + 1) k h; omega, trues_nodup m _⟩
  | false :: m, k => trues_nodup m _
theorem sel_perm : ∀ (As : List Th) (m : List Bool) (k : Nat), m.length ≤ As.length → As.Perm (selF m As ++ (trues k m).map fun i => nthA As (i - k))
  | As, [], k, _ => by cases As <;> simp [selF, trues]
  | [], b :: m, k, h => by simp at h
  | A :: As, true :: m, k, h => by
    simp only [selF, trues, List.map_cons, Nat.sub_self]
    have e : (trues (k + 1) m).map (fun i => nthA (A :: As) (i - k)) = (trues (k + 1) m).map fun i => nthA As (i - (k + 1)) := by
      apply List.map_congr_left
      intro i hi
      have := (trues_lt m (k + 1) i hi).1
      rw [show i - k = (i - (k + 1)) + 1 by omega]; rfl
    rw [e]
    exact ((sel_perm As m (k + 1) (by simpa using h)).cons A).trans List.perm_middle.symm
  | A :: As, false :: m, k, h => by
    simp only [selF, trues, List.cons_append]
    have e : (trues (k + 1) m).map (fun i => nthA (A :: As) (i - k)) = (trues (k + 1) m).map fun i => nthA As (i - (k + 1)) := by
      apply List.map_congr_left
      intro i hi
      have := (trues_lt m (k + 1) i hi).1
      rw [show i - k = (i - (k + 1)) + 1 by omega]; rfl
    rw [e]
    exact (sel_perm As m (k + 1) (by simpa using h)).cons A
theorem perm_of_sub : ∀ {a b : List Nat}, a.Nodup → b.Nodup → (∀ x ∈ a, x ∈ b) → (∀ x ∈ b, x ∈ a) → a.Perm b
  | [], b, _, _, _, h2 => by
    cases b with
    | nil => exact .refl _
    | cons x b => exact absurd (h2 x (by simp)) (by simp)
  | x :: a, b, ha, hb, h1, h2 => by
    have hx : x ∈ b := h1 x (by simp)
    have hp := List.perm_cons_erase hx
    have ha' := List.nodup_cons.1 ha
    refine ((perm_of_sub ha'.2 (hb.erase x) (fun y hy => ?_) (fun y hy => ?_)).cons x).trans hp.symm
    · have hne : y ≠ x := fun e => by subst e; exact ha'.1 hy
      exact (List.mem_erase_of_ne hne).2 (h1 y (by simp [hy]))
    · have hne : y ≠ x := fun e => by subst e; exact (List.Nodup.not_mem_erase hb) hy
      have := h2 y (List.mem_of_mem_erase hy)
      rcases List.mem_cons.1 this with e | e
      · exact absurd e hne
      · exact e
theorem pickA_map (As : List Th) (is : List Nat) : pickA As is = is.map (nthA As) := by
  induction is with
  | nil => rfl
  | cons i is ih => simp [pickA, ih]
theorem Sat.split {w : World} {As : List Th} (h : Sat w As) (is : List Nat) (m : List Bool) (hm : maskOk As.length is m = true) : Sat w (pickA As is ++ [starL (selF m As)]) := by
  simp only [maskOk, Bool.and_eq_true, decide_eq_true_eq, List.all_eq_true, List.contains_iff_mem] at hm
  obtain ⟨⟨⟨⟨h1, _⟩, h3⟩, h4⟩, h5⟩ := hm
  have hp := sel_perm As m 0 h1
  have hq : is.Perm (trues 0 m) := perm_of_sub h5 (trues_nodup m 0) h4 h3
  rw [pickA_map]
  refine Sat.perm (As := starL (selF m As) :: is.map (nthA As)) ((h.perm (hp.trans ?_)).fold) (List.perm_append_comm (l₁ := [starL (selF m As)]))
  simp only [Nat.sub_zero]
  exact ((hq.map (nthA As)).symm).append_left _
theorem Sat.reorder {w : World} {As : List Th} (h : Sat w As) (is : List Nat) (hm : maskOk As.length is (List.replicate As.length true) = true) : Sat w (pickA As is) := by
  have h1 := h.split is _ hm
  have e : selF (List.replicate As.length true) As = [] := by
    clear hm h1 h
    induction As with
    | nil => rfl
    | cons A As ih => simpa [List.replicate_succ, selF] using ih
  rw [e] at h1
  obtain ⟨F, h2⟩ := h1
  obtain ⟨F1, F2, rfl, d, g1, g2⟩ := starL_append.1 h2
  exact ⟨F1, g1⟩
theorem Sat.join {w : World} {Bs As : List Th} (h : Sat w Bs) (hl : Bs.getLast? = some (starL As)) : Sat w (Bs.dropLast ++ As) := by
  have e : Bs = Bs.dropLast ++ [starL As] := by
    obtain ⟨ys, rfl⟩ := List.getLast?_eq_some_iff.1 hl
    simp
  rw [e] at h
  exact ((h.perm List.perm_append_comm).flat).perm List.perm_append_comm
/-! ### kinds of things -/
def blkT (b : Nat) (cs : List Value) : Th where
  at_ := fun w F => (F = fun k => k = b) ∧ Blk w b cs
  fr := fun a ⟨e, h⟩ => ⟨e, h.congr (a.blk _ (by rw [e]))⟩
  lt := fun ⟨e, h⟩ k hk => by rw [e] at hk; subst hk; exact h.lt
def ownT (v : Value) (n size : Nat) (xs : List Value) : Th where
  at_ := fun w F => ∃ foot, (F = fun k => k ∈ foot) ∧ Own w v n size xs foot
  fr := fun a ⟨f, e, h⟩ => ⟨f, e, h.congr fun k hk => a.blk k (by rw [e]; exact hk)⟩
  lt := fun ⟨f, e, h⟩ k hk => by rw [e] at hk; exact h.lt k hk
/-- what was there in W is as it was -/
def frameT (W : World) : Th where
  at_ := fun w F => (F = fun k => k < W.heap.size) ∧ W.heap.size ≤ w.heap.size ∧ Agree (fun k => k < W.heap.size) W w
  fr := fun {w w' F} a ⟨e, h, g⟩ => by
    subst e
    refine ⟨rfl, ?_, a.os.trans g.os, a.tape.trans g.tape, a.output.trans g.output, fun k hk => (a.blk k hk).trans (g.blk k hk)⟩
    rcases Nat.lt_or_ge w'.heap.size W.heap.size with q | q
    · have h1 := a.blk _ q
      rw [Array.getElem?_eq_none (Nat.le_refl _)] at h1
      have h2 : w'.heap.size < w.heap.size := by omega
      rw [Array.getElem?_eq_getElem h2] at h1
      cases h1
    · exact q
  lt := fun ⟨e, h, _⟩ k hk => by rw [e] at hk; omega
theorem Sat.start (W : World) : Sat W [frameT W] := ⟨_, fun k => k < W.heap.size, fun _ => False, rfl, fun _ _ h => h, ⟨rfl, Nat.le_refl _, rfl, rfl, rfl, fun _ _ => rfl⟩, rfl⟩
theorem Sat.below {W w : World} {As : List Th} (h : Sat w As) (i : Nat) (hi : As[i]? = some (frameT W)) : Below W.heap.size W w := by
  obtain ⟨F, rfl, h1, h2⟩ := h.get i hi
  exact ⟨h2.os, h2.tape, h2.output, h1, h2.blk⟩
theorem Sat.blk {w : World} {As : List Th} (h : Sat w As) (i : Nat) {b : Nat} {cs : List Value} (hi : As[i]? = some (blkT b cs)) : Blk w b cs := by
  obtain ⟨F, _, h⟩ := h.get i hi; exact h
theorem Sat.cell {w : World} {As : List Th} (h : Sat w As) (i : Nat) {b o : Nat} {cs : List Value} {v : Value} (hi : As[i]? = some (blkT b cs)) (hv : cs[o]? = some v) : w.cell? ⟨b, o, none⟩ = some v := (h.blk i hi).cell hv
theorem Sat.own {w : World} {As : List Th} (h : Sat w As) (i : Nat) {v : Value} {n size : Nat} {xs : List Value} (hi : As[i]? = some (ownT v n size xs)) : ∃ foot, Own w v n size xs foot := by
  obtain ⟨F, f, _, h⟩ := h.get i hi; exact ⟨f, h⟩
theorem Only.agree {S : List Nat} {w w' : World} (h : Only S w w') {F : Nat → Prop} (hS : ∀ x ∈ S, F x ∨ w.heap.size ≤ x) : Agree (fun k => k < w.heap.size ∧ ¬ F k) w w' :=
  ⟨h.os, h.tape, h.output, fun k hk => h.block k hk.1 (fun hm => by rcases hS k hm with q | q; exact hk.2 q; omega)⟩
/-- a row has been changed in its place -/
theorem Sat.blk_set {w w' : World} {As : List Th} (h : Sat w As) (i : Nat) {b : Nat} {cs cs' : List Value} (hi : As[i]? = some (blkT b cs)) (hb : Blk w' b cs') (ho : Only [b] w w') : Sat w' (As.set i (blkT b cs')) :=
  h.step i hi fun F ⟨e, _⟩ => ⟨F, ⟨e, hb⟩, fun k hk => .inl hk, ho.agree (fun x hx => .inl (by simp only [List.mem_singleton] at hx; subst hx; rw [e]))⟩
theorem Sat.own_set {w w' : World} {As : List Th} (h : Sat w As) (i : Nat) {v v' : Value} {n n' size size' : Nat} {xs xs' : List Value} (hi : As[i]? = some (ownT v n size xs))
    (hst : ∀ foot, Own w v n size xs foot → ∃ foot', Own w' v' n' size' xs' foot' ∧ Only foot w w' ∧ ∀ k ∈ foot', k ∈ foot ∨ w.heap.size ≤ k) : Sat w' (As.set i (ownT v' n' size' xs')) :=
  h.step i hi fun F ⟨f, e, h1⟩ => by
    obtain ⟨f', g1, g2, g3⟩ := hst f h1
    exact ⟨_, ⟨f', rfl, g1⟩, fun k hk => by rw [e]; exact g3 k hk, g2.agree (fun x hx => .inl (by rw [e]; exact hx))⟩
theorem Sat.blk_new {w w' : World} {As : List Th} (h : Sat w As) {b : Nat} {cs : List Value} (hb : Blk w' b cs) (ho : Only [] w w') (hlt : w.heap.size ≤ b) : Sat w' (blkT b cs :: As) :=
  h.new ho (A := blkT b cs) ⟨rfl, hb⟩ (fun k hk => by rw [hk]; exact hlt)
theorem own_of_blk {w : World} {b n cap size : Nat} {xs sp : List Value} (hb : Blk w b (xs ++ sp)) (hl : xs.length = n * size) (hc : n ≤ cap) (hs : (xs ++ sp).length = cap * size) : Own w (.slice (some ⟨b, 0, none⟩) n cap) n size xs [b] :=
  ⟨hl, .inr ⟨b, cap, sp, rfl, hc, hb, hs, rfl⟩⟩
/-- F says φ of whatever world it holds in -/
def Ent (F : Th) (φ : World → Prop) : Prop := ∀ {w G}, F.at_ w G → φ w
theorem Ent.sat {F : Th} {φ : World → Prop} (h : Ent F φ) {w : World} {As : List Th} (hS : Sat w As) (i : Nat) (hi : As[i]? = some F) : φ w := let ⟨_, g⟩ := hS.get i hi; h g
theorem Ent.starL {As : List Th} {A : Th} {φ : World → Prop} (h : Ent A φ) (i : Nat) (hi : As[i]? = some A) : Ent (M.starL As) φ := fun g => h.sat ⟨_, g⟩ i hi
theorem Ent.frame {W : World} {φ : World → Prop} (h : ∀ w, Below W.heap.size W w → φ w) : Ent (frameT W) φ := fun ⟨_, h1, h2⟩ => h _ ⟨h2.os, h2.tape, h2.output, h1, h2.blk⟩
theorem Ent.and {F : Th} {φ ψ : World → Prop} (h : Ent F φ) (g : Ent F ψ) : Ent F (fun w => φ w ∧ ψ w) := fun q => ⟨h q, g q⟩
theorem Ent.mono {F : Th} {φ ψ : World → Prop} (h : Ent F φ) (hm : ∀ w, φ w → ψ w) : Ent F ψ := fun q => hm _ (h q)
end Go.Proofs.YtcbdclhoekokpaaGreatDoor.M
/- Rules that walk code by its text: what is known of a frame is a list; each operation has a rule. Conditions: each rule's own hypotheses. -/
namespace Go.Proofs.YtcbdclhoekokpaaGreatDoor.M
open Go.RowKit
abbrev Env := List (Nat × Value)
def eget : Env → Nat → Option Value
  | [], _ => none
  | (d, v) :: L, t => bif Nat.beq d t then some v else eget L t
def look (L : Env) : Operand → Option Value
  | .tmp t => eget L t
  | .const v => some v
  | .global g => some (.pointer (some ⟨g, 0, none⟩))
  | .func f => some (.func (.func f) #[] #[])
def looks (L : Env) : List Operand → Option (List Value)
  | [] => some []
  | x :: xs => match look L x, looks L xs with | some v, some vs => some (v :: vs) | _, _ => none
structure Fr (n : Nat) (L : Env) (a : Act) : Prop where
  size : a.tmps.size = n
  defers : a.defers = []
  get : ∀ t v, eget L t = some v → a.tmps[t]? = some v
def pd (d : Option Nat) (v : Value) (L : Env) : Env := match d with | some d => (d, v) :: L | none => L
theorem Fr.eval {n : Nat} {L : Env} {a : Act} (h : Fr n L a) {x : Operand} {v : Value} (hx : look L x = some v) : a.eval x = v := by
  cases x with
  | tmp t => have := h.get t v hx; simp [Act.eval, this]
  | const u => simpa [look, Act.eval] using hx
  | global g => simpa [look, Act.eval] using hx
  | func f => simpa [look, Act.eval] using hx
theorem Fr.evals {n : Nat} {L : Env} {a : Act} (h : Fr n L a) : ∀ {xs : List Operand} {vs : List Value}, looks L xs = some vs → xs.map a.eval = vs
  | [], vs, hx => by simp [looks] at hx; subst hx; rfl
  | x :: xs, vs, hx => by
    simp only [looks] at hx
    cases h1 : look L x with
    | none => simp [h1] at hx
    | some v =>
      cases h2 : looks L xs with
      | none => simp [h1, h2] at hx
      | some us => simp [h1, h2] at hx; subst hx; simp [h.eval h1, h.evals h2]
theorem Fr.put {n : Nat} {L : Env} {a : Act} (h : Fr n L a) (d : Option Nat) (v : Value) (hd : (match d with | some d => Nat.blt d n | none => true) = true) : Fr n (pd d v L) (a.put d v) := by
  cases d with
  | none => exact h
  | some d =>
    have hlt : d < n := by simpa [Nat.blt_eq] using hd
    refine ⟨by simp [Act.put, h.size], by simp [Act.put, h.defers], fun t u ht => ?_⟩
    simp only [pd, eget] at ht
    simp only [Act.put]
    rw [Array.getElem?_setIfInBounds]
    by_cases e : d = t
    · subst e
      rw [show Nat.beq d d = true from Nat.beq_refl d] at ht
      simp at ht
      rw [if_pos rfl, if_pos (by rw [h.size]; exact hlt), ht]
    · have : Nat.beq d t = false := by
        cases hq : Nat.beq d t with
        | false => rfl
        | true => exact absurd (Nat.eq_of_beq_eq_true hq) e
      rw [this] at ht
      rw [if_neg e]
      exact h.get t u ht
/-- L' says no more than L -/
def SubE (L : Env) : Env → Prop
  | [] => True
  | (t, v) :: L' => eget L t = some v ∧ SubE L L'
theorem SubE.get {L : Env} : ∀ {L' : Env}, SubE L L' → ∀ t v, eget L' t = some v → eget L t = some v
  | [], _, t, v, h => by simp [eget] at h
  | (d, u) :: L', ⟨h1, h2⟩, t, v, h => by
    simp only [eget] at h
    cases hq : Nat.beq d t with
    | true => rw [hq] at h; simp at h; subst h; rw [← Nat.eq_of_beq_eq_true hq]; exact h1
    | false => rw [hq] at h; exact h2.get t v h
theorem Fr.sub {n : Nat} {L L' : Env} {a : Act} (h : Fr n L a) (hs : SubE L L') : Fr n L' a := ⟨h.size, h.defers, fun t v ht => h.get t v (hs.get t v ht)⟩
@[irreducible] def wl (P : Program) (n : Nat) (ops : Array Oper) (Q : Exit → Act → World → Prop) (rest : List Oper) (L : Env) (w : World) : Prop := ∀ a, Fr n L a → wpList P ops Q rest a w
@[irreducible] def wc (P : Program) (n : Nat) (c : Code) (Q : Exit → Act → World → Prop) (L : Env) (w : World) : Prop := ∀ a, Fr n L a → c.wp P Q a w
@[irreducible] def qs (n : Nat) (Q : Exit → Act → World → Prop) (e : Exit) (L : Env) (w : World) : Prop := ∀ a, Fr n L a → Q e a w
section
variable {P : Program} {n : Nat} {ops : Array Oper} {Q : Exit → Act → World → Prop} {rest : List Oper} {L : Env} {w : World} {d : Option Nat} {ty : TypeId} {pos : String} {aft : Array Edge}
theorem wc_sub {c : Code} {L' : Env} (hs : SubE L L') (h : wc P n c Q L' w) : wc P n c Q L w := by unfold wc at *; exact fun a ha => h a (ha.sub hs)
/-! ### code -/
theorem wc_seq {x y : Code} (h : wc P n x (Exit.then (y.wp P Q) Q) L w) : wc P n (.seq x y) Q L w := by
  unfold wc at *; exact fun a ha => Go.wp_seq (h a ha)
theorem wc_region {id : Nat} {l : List Oper} (h : wl P n l.toArray Q l L w) : wc P n (.region id l.toArray false) Q L w := by
  unfold wc; unfold wl at h; exact fun a ha => Go.wp_region_lit (h a ha)
theorem wc_block {id : Nat} {c : Code} (h : wc P n c (Exit.inBlock id Q) L w) : wc P n (.block id c) Q L w := by
  unfold wc at *; exact fun a ha => Go.wp_block (h a ha)
theorem wc_skip (h : qs n Q .normal L w) : wc P n .skip Q L w := by unfold wc; unfold qs at h; exact fun a ha => Go.wp_skip (h a ha)
theorem wc_exit {id : Nat} (h : qs n Q (.exit id) L w) : wc P n (.exit id) Q L w := by unfold wc; unfold qs at h; exact fun a ha => Go.wp_exit (h a ha)
theorem wc_ret (h : qs n Q .ret L w) : wc P n .ret Q L w := by unfold wc; unfold qs at h; exact fun a ha => Go.wp_ret (h a ha)
theorem wc_cond {c : Operand} {x y : Code} {t : Bool} (hc : look L c = some (.bool t)) (h1 : t = true → wc P n x Q L w) (h2 : t = false → wc P n y Q L w) : wc P n (.cond c x y) Q L w := by
  unfold wc at *; exact fun a ha => Go.wp_cond_split (ha.eval hc) (fun e => h1 e a ha) (fun e => h2 e a ha)
theorem wc_condD {c : Operand} {x y : Code} {p : Prop} {dp : Decidable p} (hc : look L c = some (.bool (@decide p dp))) (h1 : p → wc P n x Q L w) (h2 : ¬ p → wc P n y Q L w) : wc P n (.cond c x y) Q L w :=
  wc_cond hc (fun e => h1 (of_decide_eq_true e)) (fun e => h2 (of_decide_eq_false e))
theorem wc_condT {c : Operand} {x y : Code} (hc : look L c = some (.bool true)) (h1 : wc P n x Q L w) : wc P n (.cond c x y) Q L w := wc_cond hc (fun _ => h1) (fun e => by cases e)
theorem wc_condF {c : Operand} {x y : Code} (hc : look L c = some (.bool false)) (h1 : wc P n y Q L w) : wc P n (.cond c x y) Q L w := wc_cond hc (fun e => by cases e) (fun _ => h1)
theorem SubE.nil : SubE L [] := trivial
theorem SubE.cons {t : Nat} {v : Value} {L' : Env} (h : eget L t = some v) (hs : SubE L L') : SubE L ((t, v) :: L') := ⟨h, hs⟩
theorem wl_split (t : Nat) {g : Bool} (_ht : eget L t = some (.bool g)) (h1 : g = true → wl P n ops Q rest L w) (h2 : g = false → wl P n ops Q rest L w) : wl P n ops Q rest L w := by
  cases g with
  | true => exact h1 rfl
  | false => exact h2 rfl
theorem wl_splitD (t : Nat) {p : Prop} {dp : Decidable p} (_ht : eget L t = some (.bool (@decide p dp))) (h1 : p → wl P n ops Q rest L w) (h2 : ¬ p → wl P n ops Q rest L w) : wl P n ops Q rest L w := by
  by_cases h : p
  · exact h1 h
  · exact h2 h
theorem wl_nil (h : qs n Q .normal L w) : wl P n ops Q [] L w := by unfold wl; unfold qs at h; exact fun a ha => h a ha
theorem qs_seq {y : Code} (h : wc P n y Q L w) : qs n (Exit.then (y.wp P Q) Q) .normal L w := by unfold qs; unfold wc at h; exact fun a ha => h a ha
theorem qs_then_exit {K : Act → World → Prop} {id : Nat} (h : qs n Q (.exit id) L w) : qs n (Exit.then K Q) (.exit id) L w := by unfold qs at *; exact fun a ha => h a ha
theorem qs_then_ret {K : Act → World → Prop} (h : qs n Q .ret L w) : qs n (Exit.then K Q) .ret L w := by unfold qs at *; exact fun a ha => h a ha
theorem qs_block_normal {id : Nat} (h : qs n Q .normal L w) : qs n (Exit.inBlock id Q) .normal L w := by unfold qs at *; exact fun a ha => h a ha
theorem qs_block_ret {id : Nat} (h : qs n Q .ret L w) : qs n (Exit.inBlock id Q) .ret L w := by unfold qs at *; exact fun a ha => h a ha
theorem qs_block_exit {id : Nat} (h : qs n Q .normal L w) : qs n (Exit.inBlock id Q) (.exit id) L w := by
  unfold qs at *; intro a ha; simp only [Exit.inBlock, if_true]; exact h a ha
/-- a state in the middle -/
theorem wc_mid {x y : Code} (Mid : Env → World → Prop) (h1 : wc P n x (Exit.then (fun a w' => ∃ L', Fr n L' a ∧ Mid L' w') Q) L w) (h2 : ∀ L' w', Mid L' w' → wc P n y Q L' w') : wc P n (.seq x y) Q L w := by
  unfold wc at *
  intro a ha
  refine Go.wp_seq (Go.wp_mono (h1 a ha) fun e a' w' hq => ?_)
  cases e with
  | normal => obtain ⟨L', hf, hm⟩ := hq; exact h2 L' w' hm a' hf
  | exit id => exact hq
  | goto l => exact hq
  | ret => exact hq
  | panic ch => exact hq
  | outgrown => exact hq
theorem qs_mid {Mid : Env → World → Prop} {L' : Env} (hs : SubE L L') (h : Mid L' w) : qs n (Exit.then (fun a w' => ∃ L', Fr n L' a ∧ Mid L' w') Q) .normal L w := by
  unfold qs; exact fun a ha => ⟨L', ha.sub hs, h⟩
theorem least_k {p : Nat → Prop} (h : ∃ i, p i) : ∃ i, p i ∧ ∀ j, j < i → ¬ p j := by
  obtain ⟨i, hi⟩ := h
  induction i using Nat.strongRecOn with
  | _ i ih =>
    by_cases hex : ∃ j, j < i ∧ p j
    · obtain ⟨j, hj, hp⟩ := hex; exact ih j hj hp
    · exact ⟨i, hi, fun j hj hp => hex ⟨j, hj, hp⟩⟩
theorem wc_loop {c : Code} (Inv : Nat → Env → World → Prop) {L0 : Env} (k0 : Nat) (hs : SubE L L0) (h0 : Inv k0 L0 w)
    (round : ∀ k L' w', Inv k L' w' → wc P n c (Exit.then (fun a w1 => ∃ k1 L1, k1 < k ∧ Fr n L1 a ∧ Inv k1 L1 w1) Q) L' w') : wc P n (.loop c) Q L w := by
  unfold wc at *
  intro a ha
  have hμ : ∃ μ : Act → World → Nat, ∀ a w, (∃ k L', Fr n L' a ∧ Inv k L' w) → (∃ L', Fr n L' a ∧ Inv (μ a w) L' w) ∧ ∀ k, (∃ L', Fr n L' a ∧ Inv k L' w) → μ a w ≤ k := by
    have hex : ∀ (a : Act) (w : World), ∃ m : Nat, (∃ k L', Fr n L' a ∧ Inv k L' w) → (∃ L', Fr n L' a ∧ Inv m L' w) ∧ ∀ k, (∃ L', Fr n L' a ∧ Inv k L' w) → m ≤ k := by
      intro a w
      by_cases h : ∃ k L', Fr n L' a ∧ Inv k L' w
      · obtain ⟨m, hm, hl⟩ := least_k (p := fun k => ∃ L', Fr n L' a ∧ Inv k L' w) h
        exact ⟨m, fun _ => ⟨hm, fun k hk => Nat.le_of_not_lt fun q => hl k q hk⟩⟩
      · exact ⟨0, fun q => absurd q h⟩
    exact ⟨fun a w => (hex a w).choose, fun a w h => (hex a w).choose_spec h⟩
  obtain ⟨μ, hμ⟩ := hμ
  refine Go.wp_loop (fun a w => ∃ k L', Fr n L' a ∧ Inv k L' w) μ ⟨k0, L0, ha.sub hs, h0⟩ fun a w hI => ?_
  obtain ⟨⟨L', hf, hi⟩, _⟩ := hμ a w hI
  refine Go.wp_mono (round _ L' w hi a hf) fun e a1 w1 hq => ?_
  cases e with
  | normal =>
    obtain ⟨k1, L1, hlt, hf1, hi1⟩ := hq
    exact ⟨⟨k1, L1, hf1, hi1⟩, Nat.lt_of_le_of_lt ((hμ a1 w1 ⟨k1, L1, hf1, hi1⟩).2 k1 ⟨L1, hf1, hi1⟩) hlt⟩
  | exit id => exact hq
  | goto l => exact hq
  | ret => exact hq
  | panic ch => exact hq
  | outgrown => exact hq
theorem qs_round {Inv : Nat → Env → World → Prop} {k k1 : Nat} {L1 : Env} (hs : SubE L L1) (hlt : k1 < k) (h : Inv k1 L1 w) :
    qs n (Exit.then (fun a w1 => ∃ k1 L1, k1 < k ∧ Fr n L1 a ∧ Inv k1 L1 w1) Q) .normal L w := by
  unfold qs; exact fun a ha => ⟨k1, L1, hlt, ha.sub hs, h⟩
/-! ### beginning and end of a function -/
def argsE : Nat → List Value → Env
  | _, [] => []
  | i, v :: vs => (i, v) :: argsE (i + 1) vs
theorem argsE_get : ∀ (vs : List Value) (i t : Nat) (v : Value), eget (argsE i vs) t = some v → i ≤ t ∧ vs[t - i]? = some v
  | [], i, t, v, h => by simp [argsE, eget] at h
  | u :: vs, i, t, v, h => by
    simp only [argsE, eget] at h
    cases hq : Nat.beq i t with
    | true => rw [hq] at h; simp at h; subst h; have := Nat.eq_of_beq_eq_true hq; subst this; simp
    | false =>
      rw [hq] at h
      obtain ⟨h1, h2⟩ := argsE_get vs (i + 1) t v h
      refine ⟨by omega, ?_⟩
      rw [show t - i = (t - (i + 1)) + 1 by omega]
      simpa using h2
theorem calls_enter {f : FuncId} {fn : Func} {c : Code} {args : List Value} {R : Ending → World → Prop} (hf : P.funcs[f]? = some fn) (hb : fn.body = some c) (hn : fn.ntmps = n) (hl : Nat.ble args.length n = true)
    (h : wc P n c (bodyPost P fn R) (argsE 0 args) w) : Calls P f args.toArray w R := by
  have hle : args.length ≤ n := Nat.le_of_ble_eq_true hl
  unfold wc at h
  refine calls_of_wp hf hb (h _ ⟨by simp [hn]; omega, rfl, fun t v ht => ?_⟩)
  obtain ⟨_, h2⟩ := argsE_get args 0 t v ht
  simp only [Nat.sub_zero] at h2
  have hlt := (List.getElem?_eq_some_iff.1 h2).1
  rw [Array.getElem?_append_left (by simpa using hlt)]
  simpa using h2
theorem fin_of {fn : Func} {R : Ending → World → Prop} {v : Value} {e : Exit} (he : e = .normal ∨ e = .ret) (hr : ∀ a, Fr n L a → (results fn a.tmps).run P w = .ok v w) (h : R (.returned v) w) : qs n (bodyPost P fn R) e L w := by
  unfold qs
  intro a ha
  rcases he with rfl | rfl
  · exact ⟨ha.defers, v, hr a ha, h⟩
  · exact ⟨ha.defers, v, hr a ha, h⟩
theorem fin0 {fn : Func} {R : Ending → World → Prop} {e : Exit} (he : e = .normal ∨ e = .ret) (hf : fn.results = #[]) (h : R (.returned (.tuple #[])) w) : qs n (bodyPost P fn R) e L w :=
  fin_of he (fun a _ => by simp [results, hf]) h
theorem fin1 {fn : Func} {R : Ending → World → Prop} {t : Nat} {v : Value} {e : Exit} (he : e = .normal ∨ e = .ret) (hf : fn.results = #[.tmp t]) (hv : eget L t = some v) (h : R (.returned v) w) : qs n (bodyPost P fn R) e L w :=
  fin_of he (fun a ha => by have := ha.get t v hv; simp [results, hf, this]) h
theorem fin2 {fn : Func} {R : Ending → World → Prop} {t u : Nat} {v x : Value} {e : Exit} (he : e = .normal ∨ e = .ret) (hf : fn.results = #[.tmp t, .tmp u]) (hv : eget L t = some v) (hx : eget L u = some x) (h : R (.returned (.tuple #[v, x])) w) : qs n (bodyPost P fn R) e L w :=
  fin_of he (fun a ha => by have := ha.get t v hv; have := ha.get u x hx; simp [results, hf, *]) h
/-- a call returns, and R holds -/
def Ret (R : Value → World → Prop) (e : Ending) (w' : World) : Prop := ∃ v, e = .returned v ∧ R v w'
theorem Ret.mono {R R' : Value → World → Prop} {e : Ending} {w' : World} (h : Ret R e w') (hr : ∀ v w', R v w' → R' v w') : Ret R' e w' := let ⟨v, h1, h2⟩ := h; ⟨v, h1, hr _ _ h2⟩
/-! ### operations -/
theorem wl_does {o : Oper} {R : Value → World → Prop} (hg : o.guard = none) (hd : (match o.dst with | some d => Nat.blt d n | none => true) = true) (h : ∀ a, Fr n L a → does P o a w R)
    (hk : ∀ v w', R v w' → wl P n ops Q rest (pd o.dst v L) w') : wl P n ops Q (o :: rest) L w := by
  unfold wl at *
  intro a ha
  exact wpList_does hg (h a ha) (fun v w' hr => hk v w' hr _ (ha.put _ v hd))
/-- the operation gives v and leaves the world as it is -/
def Ev (P : Program) (L : Env) (w : World) (o : Oper) (v : Value) : Prop := ∀ ρ : Operand → Value, (∀ x u, look L x = some u → ρ x = u) → (execOp ρ o).run P w = .ok (.value v) w
theorem wl_val {d : Nat} {op : Op} {v : Value} (hd : Nat.blt d n = true) (h : Ev P L w ⟨some d, op, ty, pos, aft, none⟩ v)
    (hk : wl P n ops Q rest ((d, v) :: L) w) : wl P n ops Q (⟨some d, op, ty, pos, aft, none⟩ :: rest) L w :=
  wl_does rfl hd (R := fun u w' => u = v ∧ w' = w) (fun a ha => ⟨v, w, .inl (h a.eval fun x u hx => ha.eval hx), rfl, rfl⟩) (fun u w' ⟨e1, e2⟩ => by subst e1 e2; exact hk)
/-- a guarded operation that is wanted -/
theorem wl_guard {o : Op} {j t : Nat} {want g : Bool} (hj : (ops[j]?).bind (·.dst) = some t) (ht : eget L t = some (.bool g)) (hg : g = want) (h : wl P n ops Q (⟨d, o, ty, pos, aft, none⟩ :: rest) L w) : wl P n ops Q (⟨d, o, ty, pos, aft, some (j, want)⟩ :: rest) L w := by
  unfold wl at *
  intro a ha
  have := h a ha
  have hw : Region.wanted ⟨d, o, ty, pos, aft, some (j, want)⟩ (yielded ops a.tmps) = true := by
    have := ha.get t _ ht
    simp [Region.wanted, yielded, hj, this, hg]
  unfold wpList at this ⊢
  rw [if_pos hw]
  rw [if_pos (by simp [Region.wanted])] at this
  exact this
theorem wl_unwanted {o : Op} {j t : Nat} {want g : Bool} (hj : (ops[j]?).bind (·.dst) = some t) (ht : eget L t = some (.bool g)) (hg : g = !want) (hd : (match d with | some d => Nat.blt d n | none => true) = true) (h : wl P n ops Q rest (pd d undef L) w) : wl P n ops Q (⟨d, o, ty, pos, aft, some (j, want)⟩ :: rest) L w := by
  unfold wl at *
  intro a ha
  have hw : Region.wanted ⟨d, o, ty, pos, aft, some (j, want)⟩ (yielded ops a.tmps) = false := by
    have := ha.get t _ ht
    simp [Region.wanted, yielded, hj, this, hg]
  unfold wpList
  rw [if_neg (by rw [hw]; simp)]
  exact h _ (ha.put d undef hd)
/-- an operation behind a guard that has yielded nothing is not done either -/
theorem wl_unguarded {o : Op} {j t : Nat} {want : Bool} (hj : (ops[j]?).bind (·.dst) = some t) (ht : eget L t = some undef) (hd : (match d with | some d => Nat.blt d n | none => true) = true) (h : wl P n ops Q rest (pd d undef L) w) : wl P n ops Q (⟨d, o, ty, pos, aft, some (j, want)⟩ :: rest) L w := by
  unfold wl at *
  intro a ha
  have hw : Region.wanted ⟨d, o, ty, pos, aft, some (j, want)⟩ (yielded ops a.tmps) = false := by
    have := ha.get t _ ht
    simp [Region.wanted, yielded, hj, this, undef]
  unfold wpList
  rw [if_neg (by rw [hw]; simp)]
  exact h _ (ha.put d undef hd)
end
end Go.Proofs.YtcbdclhoekokpaaGreatDoor.M
/- Rules for operations: numbers, strings, fields, memory, calls. Conditions: each rule's own hypotheses. -/
namespace Go.Proofs.YtcbdclhoekokpaaGreatDoor.M
open Go.RowKit
abbrev strV (l : List UInt8) : Value := .string ⟨l.toArray⟩
abbrev intV (a : Int) : Value := .int .i64 a
abbrev ptrV (b o : Nat) : Value := .pointer (some ⟨b, o, none⟩)
def fldOff (P : Program) (s j : Nat) : Option Nat := match P.underlying s with
  | some (.struct fs) => match fs[j]? with
    | some f => match P.info? f.type with
      | some i => bif Nat.beq i.size 0 then none else some f.offset
      | none => none
    | none => none
  | _ => none
def aggB (P : Program) (t : Nat) : Option Bool := (P.underlying t).map aggDesc
def szOf (P : Program) (t : Nat) : Option Nat := (P.info? t).map (·.size)
def zeroOf (P : Program) (t : Nat) : Option (Option Value) := (P.info? t).map (·.zero)
def elemSz (P : Program) (t : Nat) : Option Nat := match P.underlying t with
  | some (.slice e) => szOf P e
  | _ => none
def callB (P : Program) (f : Nat) : Bool := match P.funcs[f]? with
  | some fn => !(fn.name == "runtime.NumGoroutine") && fn.body.isSome
  | none => false
section
variable {P : Program} {n : Nat} {ops : Array Oper} {Q : Exit → Act → World → Prop} {rest : List Oper} {L : Env} {w : World} {d : Nat} {ty : TypeId} {pos : String} {aft : Array Edge}
theorem ev_move {x : Operand} {v : Value} (hx : look L x = some v) : Ev P L w ⟨some d, .move x, ty, pos, aft, none⟩ (v) := fun ρ hρ => by simp [execOp, hρ _ _ hx]
theorem wl_move {x : Operand} {v : Value} (hx : look L x = some v) (hd : Nat.blt d n = true) (hk : wl P n ops Q rest ((d, v) :: L) w) : wl P n ops Q (⟨some d, .move x, ty, pos, aft, none⟩ :: rest) L w :=
  wl_val hd (ev_move hx) hk
theorem ev_assign {x : Operand} {v : Value} (hx : look L x = some v) : Ev P L w ⟨some d, .assign x, ty, pos, aft, none⟩ (v) := fun ρ hρ => by simp [execOp, hρ _ _ hx]
theorem wl_assign {x : Operand} {v : Value} (hx : look L x = some v) (hd : Nat.blt d n = true) (hk : wl P n ops Q rest ((d, v) :: L) w) : wl P n ops Q (⟨some d, .assign x, ty, pos, aft, none⟩ :: rest) L w :=
  wl_val hd (ev_assign hx) hk
theorem ev_pickT {c x y : Operand} {g : Bool} {v : Value} (hc : look L c = some (.bool g)) (hg : g = true) (hx : look L x = some v) : Ev P L w ⟨some d, .pick c x y, ty, pos, aft, none⟩ (v) := fun ρ hρ => by subst hg; simp [execOp, hρ _ _ hc, hρ _ _ hx, asBool]
theorem wl_pickT {c x y : Operand} {g : Bool} {v : Value} (hc : look L c = some (.bool g)) (hg : g = true) (hx : look L x = some v) (hd : Nat.blt d n = true) (hk : wl P n ops Q rest ((d, v) :: L) w) : wl P n ops Q (⟨some d, .pick c x y, ty, pos, aft, none⟩ :: rest) L w :=
  wl_val hd (ev_pickT hc hg hx) hk
theorem ev_pickF {c x y : Operand} {g : Bool} {v : Value} (hc : look L c = some (.bool g)) (hg : g = false) (hy : look L y = some v) : Ev P L w ⟨some d, .pick c x y, ty, pos, aft, none⟩ (v) := fun ρ hρ => by subst hg; simp [execOp, hρ _ _ hc, hρ _ _ hy, asBool]
theorem wl_pickF {c x y : Operand} {g : Bool} {v : Value} (hc : look L c = some (.bool g)) (hg : g = false) (hy : look L y = some v) (hd : Nat.blt d n = true) (hk : wl P n ops Q rest ((d, v) :: L) w) : wl P n ops Q (⟨some d, .pick c x y, ty, pos, aft, none⟩ :: rest) L w :=
  wl_val hd (ev_pickF hc hg hy) hk
section ints
variable {x y : Operand} {k : IntKind} {a b c : Int} {t2 : TypeId} {t : TypeId}
theorem ev_addW (hx : look L x = some (.int k a)) (hy : look L y = some (.int k b)) (hr : k.wrap (a + b) = c) : Ev P L w ⟨some d, .binOp .add t x y t2, ty, pos, aft, none⟩ (.int k c) := fun ρ hρ => by simp [execOp, hρ _ _ hx, hρ _ _ hy, eqGuard, binOp, Op.intArith, hr]
theorem wl_addW (hx : look L x = some (.int k a)) (hy : look L y = some (.int k b)) (hr : k.wrap (a + b) = c) (hd : Nat.blt d n = true) (hk : wl P n ops Q rest ((d, .int k c) :: L) w) : wl P n ops Q (⟨some d, .binOp .add t x y t2, ty, pos, aft, none⟩ :: rest) L w :=
  wl_val hd (ev_addW hx hy hr) hk
theorem ev_subW (hx : look L x = some (.int k a)) (hy : look L y = some (.int k b)) (hr : k.wrap (a - b) = c) : Ev P L w ⟨some d, .binOp .sub t x y t2, ty, pos, aft, none⟩ (.int k c) := fun ρ hρ => by simp [execOp, hρ _ _ hx, hρ _ _ hy, eqGuard, binOp, Op.intArith, hr]
theorem wl_subW (hx : look L x = some (.int k a)) (hy : look L y = some (.int k b)) (hr : k.wrap (a - b) = c) (hd : Nat.blt d n = true) (hk : wl P n ops Q rest ((d, .int k c) :: L) w) : wl P n ops Q (⟨some d, .binOp .sub t x y t2, ty, pos, aft, none⟩ :: rest) L w :=
  wl_val hd (ev_subW hx hy hr) hk
theorem ev_mulW (hx : look L x = some (.int k a)) (hy : look L y = some (.int k b)) (hr : k.wrap (a * b) = c) : Ev P L w ⟨some d, .binOp .mul t x y t2, ty, pos, aft, none⟩ (.int k c) := fun ρ hρ => by simp [execOp, hρ _ _ hx, hρ _ _ hy, eqGuard, binOp, Op.intArith, hr]
theorem wl_mulW (hx : look L x = some (.int k a)) (hy : look L y = some (.int k b)) (hr : k.wrap (a * b) = c) (hd : Nat.blt d n = true) (hk : wl P n ops Q rest ((d, .int k c) :: L) w) : wl P n ops Q (⟨some d, .binOp .mul t x y t2, ty, pos, aft, none⟩ :: rest) L w :=
  wl_val hd (ev_mulW hx hy hr) hk
theorem wrap64 {a : Int} (h1 : -9223372036854775808 ≤ a) (h2 : a ≤ 9223372036854775807) : IntKind.i64.wrap a = a := by
  simp only [IntKind.wrap, IntKind.signed, IntKind.bits]; simp [Int.bmod]; omega
theorem wl_add (hx : look L x = some (.int .i64 a)) (hy : look L y = some (.int .i64 b)) (h1 : -9223372036854775808 ≤ a + b) (h2 : a + b ≤ 9223372036854775807) (hd : Nat.blt d n = true) (hk : wl P n ops Q rest ((d, .int .i64 (a + b)) :: L) w) : wl P n ops Q (⟨some d, .binOp .add t x y t2, ty, pos, aft, none⟩ :: rest) L w :=
  wl_addW hx hy (wrap64 h1 h2) hd hk
theorem wl_sub' (hx : look L x = some (.int .i64 a)) (hy : look L y = some (.int .i64 b)) (h1 : -9223372036854775808 ≤ a - b) (h2 : a - b ≤ 9223372036854775807) (hd : Nat.blt d n = true) (hk : wl P n ops Q rest ((d, .int .i64 (a - b)) :: L) w) : wl P n ops Q (⟨some d, .binOp .sub t x y t2, ty, pos, aft, none⟩ :: rest) L w :=
  wl_subW hx hy (wrap64 h1 h2) hd hk
theorem wl_mul (hx : look L x = some (.int .i64 a)) (hy : look L y = some (.int .i64 b)) (h1 : -9223372036854775808 ≤ a * b) (h2 : a * b ≤ 9223372036854775807) (hd : Nat.blt d n = true) (hk : wl P n ops Q rest ((d, .int .i64 (a * b)) :: L) w) : wl P n ops Q (⟨some d, .binOp .mul t x y t2, ty, pos, aft, none⟩ :: rest) L w :=
  wl_mulW hx hy (wrap64 h1 h2) hd hk
theorem ev_quo (hx : look L x = some (.int .i64 a)) (hy : look L y = some (.int .i64 b)) (h0 : 0 ≤ a) (hb : 0 < b) (ha : a ≤ 9223372036854775807) : Ev P L w ⟨some d, .binOp .quo t x y t2, ty, pos, aft, none⟩ (.int .i64 (a / b)) := fun ρ hρ => by
    have hb' : b ≠ 0 := by omega
    have h3 : 0 ≤ a / b := Int.ediv_nonneg h0 (by omega)
    have h4 : a / b ≤ a := Int.ediv_le_self b h0
    have e : IntKind.i64.wrap (a.tdiv b) = a / b := by rw [Int.tdiv_eq_ediv_of_nonneg h0]; exact wrap64 (by omega) (by omega)
    simp [execOp, hρ _ _ hx, hρ _ _ hy, eqGuard, binOp, Op.intDiv, hb', e]
theorem wl_quo (hx : look L x = some (.int .i64 a)) (hy : look L y = some (.int .i64 b)) (h0 : 0 ≤ a) (hb : 0 < b) (ha : a ≤ 9223372036854775807) (hd : Nat.blt d n = true) (hk : wl P n ops Q rest ((d, .int .i64 (a / b)) :: L) w) : wl P n ops Q (⟨some d, .binOp .quo t x y t2, ty, pos, aft, none⟩ :: rest) L w :=
  wl_val hd (ev_quo hx hy h0 hb ha) hk
theorem ev_rem (hx : look L x = some (.int .i64 a)) (hy : look L y = some (.int .i64 b)) (h0 : 0 ≤ a) (hb : 0 < b) : Ev P L w ⟨some d, .binOp .rem t x y t2, ty, pos, aft, none⟩ (.int .i64 (a % b)) := fun ρ hρ => by
    have hb' : b ≠ 0 := by omega
    have e : a.tmod b = a % b := Int.tmod_eq_emod_of_nonneg h0
    simp [execOp, hρ _ _ hx, hρ _ _ hy, eqGuard, binOp, Op.intDiv, hb', e]
theorem wl_rem (hx : look L x = some (.int .i64 a)) (hy : look L y = some (.int .i64 b)) (h0 : 0 ≤ a) (hb : 0 < b) (hd : Nat.blt d n = true) (hk : wl P n ops Q rest ((d, .int .i64 (a % b)) :: L) w) : wl P n ops Q (⟨some d, .binOp .rem t x y t2, ty, pos, aft, none⟩ :: rest) L w :=
  wl_val hd (ev_rem hx hy h0 hb) hk
theorem ev_lss (hx : look L x = some (.int k a)) (hy : look L y = some (.int k b)) : Ev P L w ⟨some d, .binOp .lss t x y t2, ty, pos, aft, none⟩ (.bool (decide (a < b))) := fun ρ hρ => by simp [execOp, hρ _ _ hx, hρ _ _ hy, eqGuard, binOp, Op.intCmp]
theorem wl_lss (hx : look L x = some (.int k a)) (hy : look L y = some (.int k b)) (hd : Nat.blt d n = true) (hk : wl P n ops Q rest ((d, .bool (decide (a < b))) :: L) w) : wl P n ops Q (⟨some d, .binOp .lss t x y t2, ty, pos, aft, none⟩ :: rest) L w :=
  wl_val hd (ev_lss hx hy) hk
theorem ev_leq (hx : look L x = some (.int k a)) (hy : look L y = some (.int k b)) : Ev P L w ⟨some d, .binOp .leq t x y t2, ty, pos, aft, none⟩ (.bool (decide (a ≤ b))) := fun ρ hρ => by simp [execOp, hρ _ _ hx, hρ _ _ hy, eqGuard, binOp, Op.intCmp]
theorem wl_leq (hx : look L x = some (.int k a)) (hy : look L y = some (.int k b)) (hd : Nat.blt d n = true) (hk : wl P n ops Q rest ((d, .bool (decide (a ≤ b))) :: L) w) : wl P n ops Q (⟨some d, .binOp .leq t x y t2, ty, pos, aft, none⟩ :: rest) L w :=
  wl_val hd (ev_leq hx hy) hk
theorem ev_gtr (hx : look L x = some (.int k a)) (hy : look L y = some (.int k b)) : Ev P L w ⟨some d, .binOp .gtr t x y t2, ty, pos, aft, none⟩ (.bool (decide (b < a))) := fun ρ hρ => by simp [execOp, hρ _ _ hx, hρ _ _ hy, eqGuard, binOp, Op.intCmp]
theorem wl_gtr (hx : look L x = some (.int k a)) (hy : look L y = some (.int k b)) (hd : Nat.blt d n = true) (hk : wl P n ops Q rest ((d, .bool (decide (b < a))) :: L) w) : wl P n ops Q (⟨some d, .binOp .gtr t x y t2, ty, pos, aft, none⟩ :: rest) L w :=
  wl_val hd (ev_gtr hx hy) hk
theorem ev_geq (hx : look L x = some (.int k a)) (hy : look L y = some (.int k b)) : Ev P L w ⟨some d, .binOp .geq t x y t2, ty, pos, aft, none⟩ (.bool (decide (b ≤ a))) := fun ρ hρ => by simp [execOp, hρ _ _ hx, hρ _ _ hy, eqGuard, binOp, Op.intCmp]
theorem wl_geq (hx : look L x = some (.int k a)) (hy : look L y = some (.int k b)) (hd : Nat.blt d n = true) (hk : wl P n ops Q rest ((d, .bool (decide (b ≤ a))) :: L) w) : wl P n ops Q (⟨some d, .binOp .geq t x y t2, ty, pos, aft, none⟩ :: rest) L w :=
  wl_val hd (ev_geq hx hy) hk
theorem ev_eql (hx : look L x = some (.int k a)) (hy : look L y = some (.int k b)) : Ev P L w ⟨some d, .binOp .eql t x y t2, ty, pos, aft, none⟩ (.bool (decide (a = b))) := fun ρ hρ => by simp [execOp, hρ _ _ hx, hρ _ _ hy, eqGuard, binOp, Op.intCmp]; rfl
theorem wl_eql (hx : look L x = some (.int k a)) (hy : look L y = some (.int k b)) (hd : Nat.blt d n = true) (hk : wl P n ops Q rest ((d, .bool (decide (a = b))) :: L) w) : wl P n ops Q (⟨some d, .binOp .eql t x y t2, ty, pos, aft, none⟩ :: rest) L w :=
  wl_val hd (ev_eql hx hy) hk
theorem ev_neq (hx : look L x = some (.int k a)) (hy : look L y = some (.int k b)) : Ev P L w ⟨some d, .binOp .neq t x y t2, ty, pos, aft, none⟩ (.bool (decide (a ≠ b))) := fun ρ hρ => by simp [execOp, hρ _ _ hx, hρ _ _ hy, eqGuard, binOp, Op.intCmp]; rfl
theorem wl_neq (hx : look L x = some (.int k a)) (hy : look L y = some (.int k b)) (hd : Nat.blt d n = true) (hk : wl P n ops Q rest ((d, .bool (decide (a ≠ b))) :: L) w) : wl P n ops Q (⟨some d, .binOp .neq t x y t2, ty, pos, aft, none⟩ :: rest) L w :=
  wl_val hd (ev_neq hx hy) hk
theorem ev_not {g : Bool} (hx : look L x = some (.bool g)) : Ev P L w ⟨some d, .unOp .not t x, ty, pos, aft, none⟩ (.bool (!g)) := fun ρ hρ => by simp [execOp, hρ _ _ hx, Op.unary]
theorem wl_not {g : Bool} (hx : look L x = some (.bool g)) (hd : Nat.blt d n = true) (hk : wl P n ops Q rest ((d, .bool (!g)) :: L) w) : wl P n ops Q (⟨some d, .unOp .not t x, ty, pos, aft, none⟩ :: rest) L w :=
  wl_val hd (ev_not hx) hk
theorem ev_neg (hx : look L x = some (.int .i64 a)) (h1 : -9223372036854775808 ≤ -a) (h2 : -a ≤ 9223372036854775807) : Ev P L w ⟨some d, .unOp .neg t x, ty, pos, aft, none⟩ (.int .i64 (-a)) := fun ρ hρ => by have := wrap64 h1 h2; simp [execOp, hρ _ _ hx, Op.unary, Op.intArith, this]
theorem wl_neg (hx : look L x = some (.int .i64 a)) (h1 : -9223372036854775808 ≤ -a) (h2 : -a ≤ 9223372036854775807) (hd : Nat.blt d n = true) (hk : wl P n ops Q rest ((d, .int .i64 (-a)) :: L) w) : wl P n ops Q (⟨some d, .unOp .neg t x, ty, pos, aft, none⟩ :: rest) L w :=
  wl_val hd (ev_neg hx h1 h2) hk
theorem run_eqB (hu : P.underlying t = some .bool) (g h : Bool) (w : World) : (Op.equal t (.bool g) (.bool h)).run P w = .ok (g == h) w := by
  unfold Op.equal Op.maxDepth Op.equalIn
  simp only [Sem.run_bind, run_underlying hu, Result.andThen]
  rfl
theorem run_eqN {e : TypeId} (hu : P.underlying t = some (.pointer e)) (q : Option Addr) (w : World) : (Op.equal t (.pointer q) (.pointer none)).run P w = .ok q.isNone w := by
  unfold Op.equal Op.maxDepth Op.equalIn
  simp only [Sem.run_bind, run_underlying hu, Result.andThen]
  cases q <;> rfl
theorem ev_neqB {g h : Bool} (hu : P.underlying t = some .bool) (hx : look L x = some (.bool g)) (hy : look L y = some (.bool h)) : Ev P L w ⟨some d, .binOp .neq t x y t2, ty, pos, aft, none⟩ (.bool (g != h)) := fun ρ hρ => by simp [execOp, hρ _ _ hx, hρ _ _ hy, eqGuard, binOp, run_eqB hu]; cases g <;> cases h <;> rfl
theorem wl_neqB {g h : Bool} (hu : P.underlying t = some .bool) (hx : look L x = some (.bool g)) (hy : look L y = some (.bool h)) (hd : Nat.blt d n = true) (hk : wl P n ops Q rest ((d, .bool (g != h)) :: L) w) : wl P n ops Q (⟨some d, .binOp .neq t x y t2, ty, pos, aft, none⟩ :: rest) L w :=
  wl_val hd (ev_neqB hu hx hy) hk
theorem ev_eqlNil {e : TypeId} {q : Addr} (hu : P.underlying t = some (.pointer e)) (hx : look L x = some (.pointer (some q))) (hy : look L y = some (.pointer none)) : Ev P L w ⟨some d, .binOp .eql t x y t2, ty, pos, aft, none⟩ (.bool false) := fun ρ hρ => by simp [execOp, hρ _ _ hx, hρ _ _ hy, eqGuard, binOp, run_eqN hu]
theorem wl_eqlNil {e : TypeId} {q : Addr} (hu : P.underlying t = some (.pointer e)) (hx : look L x = some (.pointer (some q))) (hy : look L y = some (.pointer none)) (hd : Nat.blt d n = true) (hk : wl P n ops Q rest ((d, .bool false) :: L) w) : wl P n ops Q (⟨some d, .binOp .eql t x y t2, ty, pos, aft, none⟩ :: rest) L w :=
  wl_val hd (ev_eqlNil hu hx hy) hk
theorem ev_eqlNilNil {e : TypeId} (hu : P.underlying t = some (.pointer e)) (hx : look L x = some (.pointer none)) (hy : look L y = some (.pointer none)) : Ev P L w ⟨some d, .binOp .eql t x y t2, ty, pos, aft, none⟩ (.bool true) := fun ρ hρ => by simp [execOp, hρ _ _ hx, hρ _ _ hy, eqGuard, binOp, run_eqN hu]
theorem wl_eqlNilNil {e : TypeId} (hu : P.underlying t = some (.pointer e)) (hx : look L x = some (.pointer none)) (hy : look L y = some (.pointer none)) (hd : Nat.blt d n = true) (hk : wl P n ops Q rest ((d, .bool true) :: L) w) : wl P n ops Q (⟨some d, .binOp .eql t x y t2, ty, pos, aft, none⟩ :: rest) L w :=
  wl_val hd (ev_eqlNilNil hu hx hy) hk
theorem ev_minI (hx : look L x = some (.int k a)) (hy : look L y = some (.int k b)) {ts : Array TypeId} : Ev P L w ⟨some d, .call ⟨.builtin .min, #[x, y], ts⟩, ty, pos, aft, none⟩ (.int k (min a b)) := fun ρ hρ => by
    have : (if b < a then b else a) = min a b := by omega
    simp [execOp, resolve, hρ _ _ hx, hρ _ _ hy, invoke, builtin, Builtin.min_, Builtin.min2, this]
theorem wl_minI (hx : look L x = some (.int k a)) (hy : look L y = some (.int k b)) (hd : Nat.blt d n = true) {ts : Array TypeId} (hk : wl P n ops Q rest ((d, .int k (min a b)) :: L) w) : wl P n ops Q (⟨some d, .call ⟨.builtin .min, #[x, y], ts⟩, ty, pos, aft, none⟩ :: rest) L w :=
  wl_val hd (ev_minI hx hy) hk
/-- int(x), byte(x) .. -/
theorem ev_convII {s t : TypeId} {k' : IntKind} {ds : TypeDesc} (hs : P.underlying s = some ds) (ht : P.underlying t = some (.int k')) (hx : look L x = some (.int k a)) (hr : k'.wrap a = c) : Ev P L w ⟨some d, .convert s t x, ty, pos, aft, none⟩ (.int k' c) := fun ρ hρ => by simp [execOp, hρ _ _ hx, convert, run_underlying hs, run_underlying ht, Conv.intToInt, hr]
end ints
section strs
variable {x y : Operand} {s u : List UInt8} {t t2 : TypeId}
theorem size_mk (s : List UInt8) : (⟨s.toArray⟩ : ByteArray).size = s.length := by show s.toArray.size = _; simp
theorem beq_dec (s u : List UInt8) : (s == u) = decide (s = u) := by rw [Bool.eq_iff_iff]; simp
theorem toList_mk (s : List UInt8) : (⟨s.toArray⟩ : ByteArray).toList = s := by simp [ByteArray.toList_eq]
theorem ev_eqlS (hx : look L x = some (strV s)) (hy : look L y = some (strV u)) : Ev P L w ⟨some d, .binOp .eql t x y t2, ty, pos, aft, none⟩ (.bool (decide (s = u))) := fun ρ hρ => by simp [execOp, hρ _ _ hx, hρ _ _ hy, eqGuard, binOp, Op.stringOp, toList_mk, beq_dec]
theorem wl_eqlS (hx : look L x = some (strV s)) (hy : look L y = some (strV u)) (hd : Nat.blt d n = true) (hk : wl P n ops Q rest ((d, .bool (decide (s = u))) :: L) w) : wl P n ops Q (⟨some d, .binOp .eql t x y t2, ty, pos, aft, none⟩ :: rest) L w :=
  wl_val hd (ev_eqlS hx hy) hk
theorem ev_neqS (hx : look L x = some (strV s)) (hy : look L y = some (strV u)) : Ev P L w ⟨some d, .binOp .neq t x y t2, ty, pos, aft, none⟩ (.bool (decide (s ≠ u))) := fun ρ hρ => by simp [execOp, hρ _ _ hx, hρ _ _ hy, eqGuard, binOp, Op.stringOp, toList_mk, beq_dec]
theorem wl_neqS (hx : look L x = some (strV s)) (hy : look L y = some (strV u)) (hd : Nat.blt d n = true) (hk : wl P n ops Q rest ((d, .bool (decide (s ≠ u))) :: L) w) : wl P n ops Q (⟨some d, .binOp .neq t x y t2, ty, pos, aft, none⟩ :: rest) L w :=
  wl_val hd (ev_neqS hx hy) hk
theorem ev_lenS (hu : P.underlying t = some .string) (hx : look L x = some (strV s)) : Ev P L w ⟨some d, .call ⟨.builtin .len, #[x], #[t]⟩, ty, pos, aft, none⟩ (.int .i64 (s.length : Int)) := fun ρ hρ => by simp [execOp, resolve, hρ _ _ hx, invoke, builtin, Builtin.len_, run_underlying hu, goInt, size_mk]
theorem wl_lenS (hu : P.underlying t = some .string) (hx : look L x = some (strV s)) (hd : Nat.blt d n = true) (hk : wl P n ops Q rest ((d, .int .i64 (s.length : Int)) :: L) w) : wl P n ops Q (⟨some d, .call ⟨.builtin .len, #[x], #[t]⟩, ty, pos, aft, none⟩ :: rest) L w :=
  wl_val hd (ev_lenS hu hx) hk
theorem ev_lenL {e : TypeId} {a : Option Addr} {m c : Nat} (hu : P.underlying t = some (.slice e)) (hx : look L x = some (.slice a m c)) : Ev P L w ⟨some d, .call ⟨.builtin .len, #[x], #[t]⟩, ty, pos, aft, none⟩ (.int .i64 (m : Int)) := fun ρ hρ => by simp [execOp, resolve, hρ _ _ hx, invoke, builtin, Builtin.len_, run_underlying hu, goInt]
theorem wl_lenL {e : TypeId} {a : Option Addr} {m c : Nat} (hu : P.underlying t = some (.slice e)) (hx : look L x = some (.slice a m c)) (hd : Nat.blt d n = true) (hk : wl P n ops Q rest ((d, .int .i64 (m : Int)) :: L) w) : wl P n ops Q (⟨some d, .call ⟨.builtin .len, #[x], #[t]⟩, ty, pos, aft, none⟩ :: rest) L w :=
  wl_val hd (ev_lenL hu hx) hk
theorem ev_concat (hx : look L x = some (strV s)) (hy : look L y = some (strV u)) (hl : s.length + u.length ≤ 9223372036854775807) : Ev P L w ⟨some d, .binOp .add t x y t2, ty, pos, aft, none⟩ (strV (s ++ u)) := fun ρ hρ => by
    have e : (⟨s.toArray⟩ : ByteArray) ++ ⟨u.toArray⟩ = ⟨(s ++ u).toArray⟩ := by
      apply ByteArray.ext; simp
    simp [execOp, hρ _ _ hx, hρ _ _ hy, eqGuard, binOp, Op.stringOp, size_mk, e, IntKind.max]
    simp [IntKind.signed, IntKind.bits]; omega
theorem wl_concat (hx : look L x = some (strV s)) (hy : look L y = some (strV u)) (hl : s.length + u.length ≤ 9223372036854775807) (hd : Nat.blt d n = true) (hk : wl P n ops Q rest ((d, strV (s ++ u)) :: L) w) : wl P n ops Q (⟨some d, .binOp .add t x y t2, ty, pos, aft, none⟩ :: rest) L w :=
  wl_val hd (ev_concat hx hy hl) hk
theorem ev_indexS {k : IntKind} {i : Int} (j : Nat) {c : UInt8} (hu : P.underlying t = some .string) (hx : look L x = some (strV s)) (hy : look L y = some (.int k i)) (hi : i = (j : Int)) (hc : s[j]? = some c) : Ev P L w ⟨some d, .index t x y, ty, pos, aft, none⟩ (.int .u8 (c.toNat : Int)) := fun ρ hρ => by
    subst hi
    have h1 := (List.getElem?_eq_some_iff.1 hc)
    obtain ⟨h2, h3⟩ := h1
    have e : (⟨s.toArray⟩ : ByteArray)[j]? = some c := by
      rw [getElem?_pos (⟨s.toArray⟩ : ByteArray) j (by rw [size_mk]; exact h2)]
      rw [← h3]; rfl
    simp [execOp, hρ _ _ hx, hρ _ _ hy, Instr.index, asIntOf, run_underlying hu, e]
theorem wl_indexS {k : IntKind} {i : Int} (j : Nat) {c : UInt8} (hu : P.underlying t = some .string) (hx : look L x = some (strV s)) (hy : look L y = some (.int k i)) (hi : i = (j : Int)) (hc : s[j]? = some c) (hd : Nat.blt d n = true) (hk : wl P n ops Q rest ((d, .int .u8 (c.toNat : Int)) :: L) w) : wl P n ops Q (⟨some d, .index t x y, ty, pos, aft, none⟩ :: rest) L w :=
  wl_val hd (ev_indexS j hu hx hy hi hc) hk
theorem extract_mk (s : List UInt8) (a b : Nat) : (⟨s.toArray⟩ : ByteArray).extract a b = ⟨((s.take b).drop a).toArray⟩ := by
  apply ByteArray.ext
  have hz : (ByteArray.mk s.toArray).data = s.toArray := rfl
  rw [ByteArray.data_extract, hz]
  simp [List.extract_eq_take_drop, List.drop_take]
/-- a bound of a slice expression -/
def bndL (L : Env) (x : Option Operand) (dflt A : Nat) : Prop := match x with | none => A = dflt | some y => ∃ k, look L y = some (.int k (A : Int))
theorem bndN {L : Env} (dflt : Nat) : bndL L none dflt dflt := rfl
theorem bndS {L : Env} {y : Operand} {k : IntKind} {i : Int} (A dflt : Nat) (hy : look L y = some (.int k i)) (hi : i = (A : Int)) : bndL L (some y) dflt A := ⟨k, by rw [hy, hi]⟩
def bndV (x : Option Value) (dflt A : Nat) : Prop := match x with | none => A = dflt | some v => ∃ k, v = .int k (A : Int)
theorem bndL.val {lo : Option Operand} {dflt A : Nat} (h : bndL L lo dflt A) {ρ : Operand → Value} (hρ : ∀ x u, look L x = some u → ρ x = u) : bndV (lo.map ρ) dflt A := by
  cases lo with
  | none => exact h
  | some y => obtain ⟨k, h⟩ := h; exact ⟨k, hρ _ _ h⟩
theorem run_bounds (isSlice : Bool) (len cap : Nat) (lo hi : Option Value) (A B : Nat) (hlo : bndV lo 0 A) (hhi : bndV hi len B) (h1 : A ≤ B) (h2 : B ≤ cap) (w : World) : (Instr.sliceBounds isSlice len cap lo hi none).run P w = .ok (A, B, cap) w := by
  unfold Instr.sliceBounds
  cases hi with
  | none =>
    simp only [bndV] at hhi; subst hhi
    cases lo with
    | none => simp only [bndV] at hlo; subst hlo; simp
    | some y =>
      obtain ⟨k, rfl⟩ := hlo
      have : (A : Int) ≤ (B : Int) := by omega
      simp [Instr.sliceBound, asIntOf, this, h1]
  | some z =>
    obtain ⟨k2, rfl⟩ := hhi
    have g2 : (B : Int) ≤ (cap : Int) := by omega
    cases lo with
    | none => simp only [bndV] at hlo; subst hlo; simp [Instr.sliceBound, asIntOf, g2, h2]
    | some y =>
      obtain ⟨k, rfl⟩ := hlo
      have : (A : Int) ≤ (B : Int) := by omega
      simp [Instr.sliceBound, asIntOf, this, h1, g2, h2]
/-- s[lo:hi] -/
theorem ev_sliceS {lo hi : Option Operand} (A B : Nat) (hu : P.underlying t = some .string) (hx : look L x = some (strV s)) (hlo : bndL L lo 0 A) (hhi : bndL L hi s.length B) (h1 : A ≤ B) (h2 : B ≤ s.length) : Ev P L w ⟨some d, .slice t x lo hi none, ty, pos, aft, none⟩ (strV ((s.take B).drop A)) := fun ρ hρ => by
  have hb := run_bounds (P := P) false s.length s.length _ _ A B (hlo.val hρ) (hhi.val hρ) h1 h2 w
  simp only [execOp, hρ _ _ hx]
  simp [Instr.sliceAt, Instr.slice, run_underlying hu, size_mk, hb, extract_mk]
theorem wl_sliceS {lo hi : Option Operand} (A B : Nat) (hu : P.underlying t = some .string) (hx : look L x = some (strV s)) (hlo : bndL L lo 0 A) (hhi : bndL L hi s.length B) (h1 : A ≤ B) (h2 : B ≤ s.length) (hd : Nat.blt d n = true) (hk : wl P n ops Q rest ((d, strV ((s.take B).drop A)) :: L) w) : wl P n ops Q (⟨some d, .slice t x lo hi none, ty, pos, aft, none⟩ :: rest) L w :=
  wl_val hd (ev_sliceS A B hu hx hlo hhi h1 h2) hk
end strs
end
end Go.Proofs.YtcbdclhoekokpaaGreatDoor.M
/- Rules for operations on memory, and for calls. Conditions: each rule's own hypotheses. -/
namespace Go.Proofs.YtcbdclhoekokpaaGreatDoor.M
open Go.RowKit
def allOne (l : List Value) : Bool := l.all (·.oneCell')
theorem allOne_spec {l : List Value} (h : allOne l = true) : ∀ v ∈ l, v.oneCell' = true := List.all_eq_true.1 h
theorem allOne_mk {l : List Value} (h : ∀ v ∈ l, v.oneCell' = true) : allOne l = true := List.all_eq_true.2 h
section
variable {P : Program} {n : Nat} {ops : Array Oper} {Q : Exit → Act → World → Prop} {rest : List Oper} {L : Env} {w : World} {d : Nat} {ty : TypeId} {pos : String} {aft : Array Edge}
theorem ev_nilCheck {x : Operand} {q : Addr} (hx : look L x = some (.pointer (some q))) : Ev P L w ⟨some d, .nilCheck x, ty, pos, aft, none⟩ (.pointer (some q)) := fun ρ hρ => by simp [execOp, hρ _ _ hx]
theorem wl_nilCheck {x : Operand} {q : Addr} (hx : look L x = some (.pointer (some q))) (hd : Nat.blt d n = true) (hk : wl P n ops Q rest ((d, .pointer (some q)) :: L) w) : wl P n ops Q (⟨some d, .nilCheck x, ty, pos, aft, none⟩ :: rest) L w :=
  wl_val hd (ev_nilCheck hx) hk
theorem fldOff_spec {s j off : Nat} (h : fldOff P s j = some off) : ∃ fs f i, P.underlying s = some (.struct fs) ∧ fs[j]? = some f ∧ P.info? f.type = some i ∧ i.size ≠ 0 ∧ f.offset = off := by
  unfold fldOff at h
  split at h
  · rename_i fs hu
    split at h
    · rename_i f hf
      split at h
      · rename_i i hi
        cases hz : Nat.beq i.size 0 with
        | true => rw [hz] at h; simp at h
        | false => rw [hz] at h; simp at h; exact ⟨fs, f, i, hu, hf, hi, (by intro e; rw [e] at hz; cases hz), h⟩
      · cases h
    · cases h
  · cases h
theorem ev_fieldAddr {x : Operand} {s j off b o : Nat} (hx : look L x = some (ptrV b o)) (hf : fldOff P s j = some off) : Ev P L w ⟨some d, .fieldAddr s x j, ty, pos, aft, none⟩ (ptrV b (o + off)) := fun ρ hρ => by
    obtain ⟨fs, f, i, h1, h2, h3, h4, h5⟩ := fldOff_spec hf
    simp [execOp, hρ _ _ hx, Instr.fieldAt, run_underlying h1, h2, Instr.sureAddr, fieldPlace, sizeOf, typeInfo, h3, h4, h5, addr_add]
theorem wl_fieldAddr {x : Operand} {s j off b o : Nat} (hx : look L x = some (ptrV b o)) (hf : fldOff P s j = some off) (hd : Nat.blt d n = true) (hk : wl P n ops Q rest ((d, ptrV b (o + off)) :: L) w) : wl P n ops Q (⟨some d, .fieldAddr s x j, ty, pos, aft, none⟩ :: rest) L w :=
  wl_val hd (ev_fieldAddr hx hf) hk
theorem elemSz_spec {t sz : Nat} (h : elemSz P t = some sz) : ∃ e i, P.underlying t = some (.slice e) ∧ P.info? e = some i ∧ i.size = sz := by
  unfold elemSz at h
  split at h
  · rename_i e hu
    unfold szOf at h
    cases hi : P.info? e with
    | none => simp [hi] at h
    | some i => simp [hi] at h; exact ⟨e, i, hu, hi, h⟩
  · cases h
theorem ev_indexAddr {x y : Operand} {t sz b o m c : Nat} {k : IntKind} {i : Int} (j : Nat) (hx : look L x = some (.slice (some ⟨b, o, none⟩) m c)) (hy : look L y = some (.int k i)) (hi : i = (j : Int)) (hj : j < m) (hs : elemSz P t = some sz) : Ev P L w ⟨some d, .indexAddr t x y, ty, pos, aft, none⟩ (ptrV b (o + j * sz)) := fun ρ hρ => by
    obtain ⟨e, ii, h1, h2, h3⟩ := elemSz_spec hs
    subst hi
    have : (j : Int) < (m : Int) := by omega
    simp [execOp, hρ _ _ hx, hρ _ _ hy, Instr.indexAt, asIntOf, run_underlying h1, this, hj, sizeOf, typeInfo, h2, h3, addr_add]
theorem wl_indexAddr {x y : Operand} {t sz b o m c : Nat} {k : IntKind} {i : Int} (j : Nat) (hx : look L x = some (.slice (some ⟨b, o, none⟩) m c)) (hy : look L y = some (.int k i)) (hi : i = (j : Int)) (hj : j < m) (hs : elemSz P t = some sz) (hd : Nat.blt d n = true) (hk : wl P n ops Q rest ((d, ptrV b (o + j * sz)) :: L) w) : wl P n ops Q (⟨some d, .indexAddr t x y, ty, pos, aft, none⟩ :: rest) L w :=
  wl_val hd (ev_indexAddr j hx hy hi hj hs) hk
/-- &arr[i], arr an array in memory -/
theorem ev_indexAddrA {x y : Operand} {t e sz b o N : Nat} {k : IntKind} {i : Int} (j : Nat) (hu : P.underlying t = some (.array N e)) (hx : look L x = some (ptrV b o)) (hy : look L y = some (.int k i)) (hi : i = (j : Int)) (hj : j < N) (hs : szOf P e = some sz) : Ev P L w ⟨some d, .indexAddr t x y, ty, pos, aft, none⟩ (ptrV b (o + j * sz)) := fun ρ hρ => by
    subst hi
    have h3 : ∀ w, (sizeOf e).run P w = .ok sz w := fun w => run_sizeOf hs w
    have : (j : Int) < (N : Int) := by omega
    simp [execOp, hρ _ _ hx, hρ _ _ hy, Instr.indexAt, asIntOf, run_underlying hu, Instr.sureAddr, this, hj, h3, addr_add]
theorem wl_indexAddrA {x y : Operand} {t e sz b o N : Nat} {k : IntKind} {i : Int} (j : Nat) (hu : P.underlying t = some (.array N e)) (hx : look L x = some (ptrV b o)) (hy : look L y = some (.int k i)) (hi : i = (j : Int)) (hj : j < N) (hs : szOf P e = some sz) (hd : Nat.blt d n = true) (hk : wl P n ops Q rest ((d, ptrV b (o + j * sz)) :: L) w) : wl P n ops Q (⟨some d, .indexAddr t x y, ty, pos, aft, none⟩ :: rest) L w :=
  wl_val hd (ev_indexAddrA j hu hx hy hi hj hs) hk
theorem aggB_false {t : Nat} (h : aggB P t = some false) (w : World) : (isAgg t).run P w = .ok false w := by
  unfold aggB at h
  obtain ⟨d, hd, ha⟩ := Option.map_eq_some_iff.1 h
  cases d <;> simp [isAgg, run_underlying hd] <;> simp [aggDesc] at ha
theorem aggB_true {t : Nat} (h : aggB P t = some true) (w : World) : (isAgg t).run P w = .ok true w := by
  unfold aggB at h
  obtain ⟨d, hd, ha⟩ := Option.map_eq_some_iff.1 h
  exact run_isAgg hd ha w
theorem ev_load {x : Operand} {t b o : Nat} {v : Value} (hx : look L x = some (ptrV b o)) (ha : aggB P t = some false) (hc : w.cell? ⟨b, o, none⟩ = some v) : Ev P L w ⟨some d, .load t x, ty, pos, aft, none⟩ (v) := fun ρ hρ => by simp [execOp, hρ _ _ hx, Instr.loadAt, Instr.sureAddr, loadVar, aggB_false ha, load, Sem.run, hc]
theorem wl_load {x : Operand} {t b o : Nat} {v : Value} (hx : look L x = some (ptrV b o)) (ha : aggB P t = some false) (hc : w.cell? ⟨b, o, none⟩ = some v) (hd : Nat.blt d n = true) (hk : wl P n ops Q rest ((d, v) :: L) w) : wl P n ops Q (⟨some d, .load t x, ty, pos, aft, none⟩ :: rest) L w :=
  wl_val hd (ev_load hx ha hc) hk
/-- a struct or an array is read out of a row -/
theorem wl_loadA {x : Operand} {t b o m : Nat} {cs : List Value} (hx : look L x = some (ptrV b o)) (ha : aggB P t = some true) (hs : szOf P t = some m) (hb : Blk w b cs) (hm : o + m ≤ cs.length) {vs : List Value} (hvs : (cs.drop o).take m = vs) (hd : Nat.blt d n = true) (hk : wl P n ops Q rest ((d, .agg vs.toArray) :: L) w) : wl P n ops Q (⟨some d, .load t x, ty, pos, aft, none⟩ :: rest) L w := by
  subst hvs
  exact wl_val hd (fun ρ hρ => by simp [execOp, hρ _ _ hx, Instr.loadAt, Instr.sureAddr, loadVar, aggB_true ha, run_sizeOf hs, run_loadCells_blk hb o m hm]) hk
theorem ev_loadAt {x : Operand} {t b o : Nat} {vs : List Value} (hx : look L x = some (ptrV b o)) (ha : aggB P t = some true) (hs : szOf P t = some vs.length) (hat : ∀ j v, vs[j]? = some v → w.cell? ⟨b, o + j, none⟩ = some v) : Ev P L w ⟨some d, .load t x, ty, pos, aft, none⟩ (.agg vs.toArray) := fun ρ hρ => by
    have hr := run_loadCells_list (P := P) w ⟨b, o, none⟩ vs (fun j v hv => by rw [addr_add]; exact hat j v hv)
    simp [execOp, hρ _ _ hx, Instr.loadAt, Instr.sureAddr, loadVar, aggB_true ha, run_sizeOf hs, hr]
theorem wl_loadAt {x : Operand} {t b o : Nat} {vs : List Value} (hx : look L x = some (ptrV b o)) (ha : aggB P t = some true) (hs : szOf P t = some vs.length) (hat : ∀ j v, vs[j]? = some v → w.cell? ⟨b, o + j, none⟩ = some v) (hd : Nat.blt d n = true) (hk : wl P n ops Q rest ((d, .agg vs.toArray) :: L) w) : wl P n ops Q (⟨some d, .load t x, ty, pos, aft, none⟩ :: rest) L w :=
  wl_val hd (ev_loadAt hx ha hs hat) hk
/-- one cell is stored into -/
theorem wl_store {x y : Operand} {t b o i : Nat} {v : Value} {cs : List Value} {As : List Th} (hS : Sat w As) (hx : look L x = some (ptrV b o)) (hy : look L y = some v) (hs : szOf P t = some 1) (h1 : v.oneCell' = true) (hi : As[i]? = some (blkT b cs)) (ho : o < cs.length)
    (hk : ∀ w', Sat w' (As.set i (blkT b (cs.set o v))) → wl P n ops Q rest L w') : wl P n ops Q (⟨none, .store t x y, ty, pos, aft, none⟩ :: rest) L w := by
  have hb := hS.blk i hi
  have hc := hb.cell (List.getElem?_eq_getElem ho)
  have hf := hb.free o ho
  have hcs : v.cells = #[v] := by cases v <;> first | rfl | cases h1
  refine wl_does rfl rfl (R := fun _ w' => w' = w.setCell ⟨b, o, none⟩ v) (fun a ha => ⟨undef, _, .inr ⟨?_, rfl⟩, rfl⟩) (fun _ w' e => ?_)
  · have hst : (store ⟨b, o, none⟩ v).run P w = .ok () (w.setCell ⟨b, o, none⟩ v) := by
      rw [run_store P w _ v _ h1, hc]; simp [hf]
    have e0 : (⟨b, o, none⟩ : Addr).add 0 = ⟨b, o, none⟩ := by simp [Addr.add]
    simp [execOp, ha.eval hx, ha.eval hy, Instr.storeAt, Instr.sureAddr, storeVar, hcs, run_sizeOf hs, storeCells, e0, hst]
  · subst e
    exact hk _ (hS.blk_set i hi (hb.set o v) ((Only.refl _ _).setCell (.inl (by simp)) v))
/-- a struct or an array is stored into a row -/
theorem wl_storeA {x y : Operand} {t b o i m : Nat} {vs : Array Value} {cs : List Value} {As : List Th} (hS : Sat w As) (hx : look L x = some (ptrV b o)) (hy : look L y = some (.agg vs)) (hs : szOf P t = some m) (hm : vs.size = m) (h1 : allOne vs.toList = true) (hi : As[i]? = some (blkT b cs)) (ho : o + m ≤ cs.length)
    (hk : ∀ w', Sat w' (As.set i (blkT b (splice cs o vs.toList))) → wl P n ops Q rest L w') : wl P n ops Q (⟨none, .store t x y, ty, pos, aft, none⟩ :: rest) L w :=
  wl_does rfl rfl (fun a ha => does_store t x y rfl (ha.eval hx) (ha.eval hy) (hS.blk i hi) hs hm ho (allOne_spec h1)) (fun _ w' ⟨_, h2, h3, _⟩ => hk w' (hS.blk_set i hi h2 h3))
theorem run_zeroOf {t : Nat} {z : Value} (h : zeroOf P t = some (some z)) (w : World) : (zeroValue t).run P w = .ok z w := by
  cases hq : P.info? t with
  | none => simp [zeroOf, hq] at h
  | some i => have : i.zero = some z := by simpa [zeroOf, hq] using h
              simp [zeroValue, typeInfo, hq, this]
/-- a new variable -/
theorem wl_alloc {t : Nat} {z : Value} {As : List Th} (hS : Sat w As) (hz : zeroOf P t = some (some z)) {cs : List Value} (hcs : z.cells.toList = cs) (hd : Nat.blt d n = true) (hk : ∀ b w', Sat w' (blkT b cs :: As) → wl P n ops Q rest ((d, ptrV b 0) :: L) w') : wl P n ops Q (⟨some d, .alloc t, ty, pos, aft, none⟩ :: rest) L w := by
  subst hcs
  refine wl_does rfl hd (R := fun v w' => v = ptrV w.heap.size 0 ∧ w' = w.alloc (.cells z.cells t)) (fun a ha => ⟨_, _, .inl ?_, rfl, rfl⟩) (fun v w' ⟨e1, e2⟩ => ?_)
  · simp [execOp, Instr.alloc, run_zeroOf hz, newVar, newRow]
  · subst e1 e2
    exact hk _ _ (hS.blk_new (Blk.new' w _ t) ((Only.refl _ _).alloc _) (Nat.le_refl _))
theorem wl_box {t : Nat} {x : Operand} {v : Value} {As : List Th} (hS : Sat w As) (hx : look L x = some v) {cs : List Value} (hcs : v.cells.toList = cs) (hd : Nat.blt d n = true) (hk : ∀ b w', Sat w' (blkT b cs :: As) → wl P n ops Q rest ((d, ptrV b 0) :: L) w') : wl P n ops Q (⟨some d, .box t x, ty, pos, aft, none⟩ :: rest) L w := by
  subst hcs
  refine wl_does rfl hd (R := fun u w' => u = ptrV w.heap.size 0 ∧ w' = w.alloc (.cells v.cells t)) (fun a ha => ⟨_, _, .inl ?_, rfl, rfl⟩) (fun u w' ⟨e1, e2⟩ => ?_)
  · simp [execOp, ha.eval hx, Instr.box, newVar, newRow]
  · subst e1 e2
    exact hk _ _ (hS.blk_new (Blk.new' w _ t) ((Only.refl _ _).alloc _) (Nat.le_refl _))
theorem ev_extract {x : Operand} {j : Nat} {vs : List Value} {v : Value} (hx : look L x = some (.tuple vs.toArray)) (hv : vs[j]? = some v) : Ev P L w ⟨some d, .extract x j, ty, pos, aft, none⟩ (v) := fun ρ hρ => by simp [execOp, hρ _ _ hx, Instr.extract, hv]
theorem wl_extract {x : Operand} {j : Nat} {vs : List Value} {v : Value} (hx : look L x = some (.tuple vs.toArray)) (hv : vs[j]? = some v) (hd : Nat.blt d n = true) (hk : wl P n ops Q rest ((d, v) :: L) w) : wl P n ops Q (⟨some d, .extract x j, ty, pos, aft, none⟩ :: rest) L w :=
  wl_val hd (ev_extract hx hv) hk
theorem callB_run {f : Nat} (h : callB P f = true) (args : Array Value) (w : World) : (callFunc f args).run P w = .ok (.enter f args) w := by
  unfold callB at h
  split at h
  · rename_i fn hf
    simp only [Bool.and_eq_true, Bool.not_eq_true'] at h
    obtain ⟨h1, h2⟩ := h
    have h1' : fn.name ≠ "runtime.NumGoroutine" := by simpa using h1
    simp [callFunc, program, Sem.run, hf, h1', Option.isSome_iff_ne_none.1 h2]
  · cases h
/-- a call of a function by its name -/
theorem wl_call {dst : Option Nat} {f : Nat} {args : List Operand} {vs : List Value} {ts : Array TypeId} {R : Ending → World → Prop} (hf : callB P f = true) (ha : looks L args = some vs) (hc : Calls P f vs.toArray w R) (hd : (match dst with | some d => Nat.blt d n | none => true) = true)
    (hk : ∀ e w', R e w' → ∃ v, e = .returned v ∧ wl P n ops Q rest (pd dst v L) w') : wl P n ops Q (⟨dst, .call ⟨.value (.func f), args.toArray, ts⟩, ty, pos, aft, none⟩ :: rest) L w := by
  unfold wl
  intro a hfr
  refine wpList_plain rfl fun K hK => ?_
  unfold Oper.wp
  have he := hfr.evals ha
  have hr : (execOp a.eval ⟨dst, .call ⟨.value (.func f), args.toArray, ts⟩, ty, pos, aft, none⟩).run P w = .ok (.enter f vs.toArray) w := by
    simp only [execOp, resolve, Act.eval, Deferred.ofValue, invoke]
    simp [he, callB_run hf]
  rw [hr]
  refine Calls.mono hc fun e w' hR => ?_
  obtain ⟨v, rfl, h⟩ := hk e w' hR
  unfold wl at h
  exact hK _ _ (h _ (hfr.put dst v hd))
/-- a call of a function value -/
theorem wl_callV {dst : Option Nat} {x : Operand} {f : Nat} {cap : List Value} {args : List Operand} {vs : List Value} {ts : Array TypeId} {R : Ending → World → Prop} (hx : look L x = some (.func (.func f) #[] cap.toArray)) (hf : callB P f = true) (ha : looks L args = some vs) (hc : Calls P f (vs ++ cap).toArray w R) (hd : (match dst with | some d => Nat.blt d n | none => true) = true)
    (hk : ∀ e w', R e w' → ∃ v, e = .returned v ∧ wl P n ops Q rest (pd dst v L) w') : wl P n ops Q (⟨dst, .call ⟨.value x, args.toArray, ts⟩, ty, pos, aft, none⟩ :: rest) L w := by
  unfold wl
  intro a hfr
  refine wpList_plain rfl fun K hK => ?_
  unfold Oper.wp
  have he := hfr.evals ha
  have hr : (execOp a.eval ⟨dst, .call ⟨.value x, args.toArray, ts⟩, ty, pos, aft, none⟩).run P w = .ok (.enter f (vs ++ cap).toArray) w := by
    simp only [execOp, resolve, hfr.eval hx, Deferred.ofValue, invoke]
    simp [he, callB_run hf]
  rw [hr]
  refine Calls.mono hc fun e w' hR => ?_
  obtain ⟨v, rfl, h⟩ := hk e w' hR
  unfold wl at h
  exact hK _ _ (h _ (hfr.put dst v hd))
end
end Go.Proofs.YtcbdclhoekokpaaGreatDoor.M
