/- A small logic of memory over whatever program: rows of cells ('Blk'), what a step may have changed ('Only'), and laws for the operations on many cells. Conditions: each law's own hypotheses. -/
import Derived.Test.YtcbdclhoekokpaaGreatDoorRows
import Derived.WalkKit
import Derived.WalkSpells
import Derived.WalkLawsBesides
import Derived.BigQuiet
namespace Go.Proofs.YtcbdclhoekokpaaGreatDoor.M
open Go.RowKit

theorem hid {p : Prop} (h : p) : Hid p := h

/-- block b is a row of the cells cs, none of them frozen -/
def Blk (w : World) (b : Nat) (cs : List Value) : Prop :=
  ∃ T lo hi, w.heap[b]? = some (.cells cs.toArray T (lo, hi)) ∧ (hi ≤ lo ∨ cs.length ≤ lo)

theorem Blk.lt {w : World} {b : Nat} {cs : List Value} (h : Blk w b cs) : b < w.heap.size := by
  obtain ⟨T, lo, hi, h, _⟩ := h
  exact (Array.getElem?_eq_some_iff.1 h).1

theorem Blk.cell {w : World} {b o : Nat} {cs : List Value} {v : Value} (h : Blk w b cs) (hv : cs[o]? = some v) : w.cell? ⟨b, o, none⟩ = some v := by
  obtain ⟨T, lo, hi, h, _⟩ := h
  simp [World.cell?, h, hv]

theorem Blk.free {w : World} {b : Nat} {cs : List Value} (h : Blk w b cs) (o : Nat) (ho : o < cs.length) : w.frozen? ⟨b, o, none⟩ = false := by
  obtain ⟨T, lo, hi, h, hf⟩ := h
  simp only [World.frozen?, h]
  simp
  omega

theorem Blk.congr {w w' : World} {b : Nat} {cs : List Value} (h : Blk w b cs) (e : w'.heap[b]? = w.heap[b]?) : Blk w' b cs := by
  unfold Blk; rw [e]; exact h

theorem Blk.drew {w : World} {b : Nat} {cs : List Value} (h : Blk w b cs) : Blk w.drew b cs := h

theorem Blk.set {w : World} {b : Nat} {cs : List Value} (h : Blk w b cs) (o : Nat) (v : Value) : Blk (w.setCell ⟨b, o, none⟩ v) b (cs.set o v) := by
  obtain ⟨T, lo, hi, h, hf⟩ := h
  refine ⟨T, lo, hi, ?_, by simpa using hf⟩
  simp [World.setCell, Array.getElem?_modify, h]

theorem Blk.other {w : World} {b : Nat} {cs : List Value} (h : Blk w b cs) {a : Addr} (hne : b ≠ a.block) (v : Value) : Blk (w.setCell a v) b cs :=
  h.congr (Below.heap_setCell _ _ _ _ hne)

theorem Blk.alloc {w : World} {b : Nat} {cs : List Value} (h : Blk w b cs) (o : Obj) : Blk (w.alloc o) b cs :=
  h.congr (Below.heap_alloc _ _ _ h.lt)

theorem Blk.new (w : World) (cs : List Value) (T : TypeId) : Blk (w.alloc (.cells cs.toArray T)) w.heap.size cs :=
  ⟨T, 0, 0, heap_alloc_new _ _, .inl (Nat.le_refl _)⟩

theorem Blk.new' (w : World) (cs : Array Value) (T : TypeId) : Blk (w.alloc (.cells cs T)) w.heap.size cs.toList :=
  ⟨T, 0, 0, by rw [heap_alloc_new], .inl (Nat.le_refl _)⟩

/-- of what was there in w, only the blocks of S may have changed -/
structure Only (S : List Nat) (w w' : World) : Prop where
  os : w'.os = w.os
  tape : w'.tape = w.tape
  output : w'.output = w.output
  size : w.heap.size ≤ w'.heap.size
  block : ∀ k, k < w.heap.size → k ∉ S → w'.heap[k]? = w.heap[k]?

theorem Only.refl (S : List Nat) (w : World) : Only S w w := ⟨rfl, rfl, rfl, Nat.le_refl _, fun _ _ _ => rfl⟩

theorem Only.trans {S S' : List Nat} {a b c : World} (h : Only S a b) (k : Only S' b c) (hs : ∀ x ∈ S', x ∈ S ∨ a.heap.size ≤ x) : Only S a c :=
  ⟨k.os.trans h.os, k.tape.trans h.tape, k.output.trans h.output, Nat.le_trans h.size k.size, fun i hi hn =>
    (k.block i (Nat.lt_of_lt_of_le hi h.size) (fun hm => by rcases hs i hm with h1 | h1; exact hn h1; omega)).trans (h.block i hi hn)⟩

theorem Only.trans0 {S : List Nat} {a b c : World} (h : Only S a b) (k : Only [] b c) : Only S a c := h.trans k (fun _ hx => by cases hx)
theorem Only.trans1 {S : List Nat} {a b c : World} (h : Only S a b) (k : Only S b c) : Only S a c := h.trans k (fun _ hx => .inl hx)

theorem Only.mono {S S' : List Nat} {a b : World} (h : Only S a b) (hs : ∀ x ∈ S, x ∈ S') : Only S' a b :=
  ⟨h.os, h.tape, h.output, h.size, fun i hi hn => h.block i hi (fun hm => hn (hs i hm))⟩

theorem Only.drew {S : List Nat} {a w : World} (h : Only S a w) : Only S a w.drew := ⟨h.os, h.tape, h.output, h.size, h.block⟩

theorem Only.alloc {S : List Nat} {a w : World} (h : Only S a w) (o : Obj) : Only S a (w.alloc o) :=
  h.trans (S' := []) ⟨rfl, rfl, rfl, by simp, fun k hk _ => Below.heap_alloc _ _ _ hk⟩ (fun _ hx => by cases hx)

theorem Only.setCell {S : List Nat} {a w : World} (h : Only S a w) {p : Addr} (hp : p.block ∈ S ∨ a.heap.size ≤ p.block) (u : Value) : Only S a (w.setCell p u) :=
  h.trans (S' := [p.block]) ⟨rfl, rfl, rfl, by simp [World.setCell], fun k _ hn => Below.heap_setCell _ _ _ _ (by simpa using hn)⟩
    (fun x hx => by simp only [List.mem_singleton] at hx; subst hx; exact hp)

theorem Only.below {w w' : World} (h : Only [] w w') : Below w.heap.size w w' :=
  ⟨h.os, h.tape, h.output, h.size, fun k hk => h.block k hk (by simp)⟩

theorem Only.of_below {w w' : World} (h : Below w.heap.size w w') : Only [] w w' :=
  ⟨h.os, h.tape, h.output, h.size, fun k hk _ => h.block k hk⟩

theorem Only.of_grown {w w' : World} {g : Nat} (h : w.grownBy w' (some g)) : Only [g] w w' :=
  ⟨h.os, h.tape, h.output, h.size, fun k hk hn => h.block k hk (by simpa using hn)⟩

theorem Only.belowB {S : List Nat} {B : Nat} {W w w' : World} (hb : Below B W w) (h : Only S w w') (hs : ∀ x ∈ S, B ≤ x) (hB : B ≤ w.heap.size) : Below B W w' :=
  hb.trans ⟨h.os, h.tape, h.output, h.size, fun k hk => h.block k (by omega) (fun hm => by have := hs k hm; omega)⟩

theorem Only.blk {S : List Nat} {w w' : World} {b : Nat} {cs : List Value} (h : Only S w w') (hb : Blk w b cs) (hn : b ∉ S) : Blk w' b cs :=
  hb.congr (h.block b hb.lt hn)

theorem Only.cell {S : List Nat} {w w' : World} {b o : Nat} (h : Only S w w') (hb : b < w.heap.size) (hn : b ∉ S) : w'.cell? ⟨b, o, none⟩ = w.cell? ⟨b, o, none⟩ :=
  World.cell?_of_block (w := w) (h.block b hb hn)

/-- footprints of several things: from B on, below N, no two with a block in common -/
structure Apart (B N : Nat) (Fs : List (List Nat)) : Prop where
  lo : ∀ F ∈ Fs, ∀ k ∈ F, B ≤ k
  hi : ∀ F ∈ Fs, ∀ k ∈ F, k < N
  dis : ∀ (i j : Nat) (F G : List Nat), i ≠ j → Fs[i]? = some F → Fs[j]? = some G → ∀ k ∈ F, k ∉ G

theorem Apart.grow {B N N' : Nat} {Fs : List (List Nat)} (h : Apart B N Fs) (hN : N ≤ N') : Apart B N' Fs :=
  ⟨h.lo, fun F hF k hk => Nat.lt_of_lt_of_le (h.hi F hF k hk) hN, h.dis⟩

theorem Apart.nil (B N : Nat) : Apart B N [] := ⟨by simp, by simp, by simp⟩

/-- one footprint has moved: to blocks that it had, or new ones -/
theorem Apart.upd {B N N' : Nat} {Fs : List (List Nat)} (h : Apart B N Fs) (i : Nat) {F F' : List Nat} (hi : Fs[i]? = some F) (hf : ∀ k ∈ F', k ∈ F ∨ N ≤ k) (hF : ∀ k ∈ F', k < N') (hN : N ≤ N') (hB : B ≤ N) : Apart B N' (Fs.set i F') := by
  have hmem : F ∈ Fs := List.mem_of_getElem? hi
  have hil := (List.getElem?_eq_some_iff.1 hi).1
  refine ⟨fun G hG k hk => ?_, fun G hG k hk => ?_, fun a b G K hab hG hK k hk hk2 => ?_⟩
  · rcases List.mem_or_eq_of_mem_set hG with h1 | rfl
    · exact h.lo G h1 k hk
    · rcases hf k hk with h2 | h2
      · exact h.lo F hmem k h2
      · omega
  · rcases List.mem_or_eq_of_mem_set hG with h1 | rfl
    · have := h.hi G h1 k hk; omega
    · exact hF k hk
  · rw [List.getElem?_set] at hG hK
    by_cases ha : i = a
    · subst ha
      rw [if_pos rfl, if_pos hil] at hG
      rw [if_neg hab] at hK
      cases hG
      rcases hf k hk with h2 | h2
      · exact h.dis i b F K hab hi hK k h2 hk2
      · have := h.hi K (List.mem_of_getElem? hK) k hk2; omega
    · rw [if_neg ha] at hG
      by_cases hb : i = b
      · subst hb
        rw [if_pos rfl, if_pos hil] at hK
        cases hK
        rcases hf k hk2 with h2 | h2
        · exact h.dis a i G F hab hG hi k hk h2
        · have := h.hi G (List.mem_of_getElem? hG) k hk; omega
      · rw [if_neg hb] at hK
        exact h.dis a b G K hab hG hK k hk hk2

/-- a new thing in new blocks -/
theorem Apart.add {B N N' : Nat} {Fs : List (List Nat)} (h : Apart B N Fs) {F' : List Nat} (hf : ∀ k ∈ F', N ≤ k) (hF : ∀ k ∈ F', k < N') (hN : N ≤ N') (hB : B ≤ N) : Apart B N' (Fs ++ [F']) := by
  refine ⟨fun G hG k hk => ?_, fun G hG k hk => ?_, fun a b G K hab hG hK k hk hk2 => ?_⟩
  · rcases List.mem_append.1 hG with h1 | h1
    · exact h.lo G h1 k hk
    · simp only [List.mem_singleton] at h1; subst h1; have := hf k hk; omega
  · rcases List.mem_append.1 hG with h1 | h1
    · have := h.hi G h1 k hk; omega
    · simp only [List.mem_singleton] at h1; subst h1; exact hF k hk
  · by_cases ha : a < Fs.length
    · rw [List.getElem?_append_left ha] at hG
      by_cases hb : b < Fs.length
      · rw [List.getElem?_append_left hb] at hK
        exact h.dis a b G K hab hG hK k hk hk2
      · rw [List.getElem?_append_right (by omega)] at hK
        have hK' := List.mem_of_getElem? hK
        simp only [List.mem_singleton] at hK'; subst hK'
        have h1 := h.hi G (List.mem_of_getElem? hG) k hk
        have h2 := hf k hk2
        omega
    · rw [List.getElem?_append_right (by omega)] at hG
      have hG' := List.mem_of_getElem? hG
      simp only [List.mem_singleton] at hG'; subst hG'
      by_cases hb : b < Fs.length
      · rw [List.getElem?_append_left hb] at hK
        have h1 := h.hi K (List.mem_of_getElem? hK) k hk2
        have h2 := hf k hk
        omega
      · have h1 := (List.getElem?_eq_some_iff.1 hG).1
        rw [List.getElem?_append_right (by omega)] at hK
        have h2 := (List.getElem?_eq_some_iff.1 hK).1
        simp at h1 h2; omega

/-- cells vs laid over cs from place o on -/
def splice (cs : List Value) (o : Nat) (vs : List Value) : List Value := cs.take o ++ vs ++ cs.drop (o + vs.length)

theorem splice_length {cs : List Value} {o : Nat} {vs : List Value} (h : o + vs.length ≤ cs.length) : (splice cs o vs).length = cs.length := by
  simp [splice]; omega

theorem splice_get {cs : List Value} {o : Nat} {vs : List Value} (h : o + vs.length ≤ cs.length) (j : Nat) :
    (splice cs o vs)[j]? = if o ≤ j ∧ j < o + vs.length then vs[j - o]? else cs[j]? := by
  simp only [splice, List.append_assoc]
  have hl : (cs.take o).length = o := by simp; omega
  by_cases h1 : j < o
  · rw [List.getElem?_append_left (by omega), if_neg (by omega), List.getElem?_take, if_pos h1]
  · rw [List.getElem?_append_right (by omega), hl]
    by_cases h2 : j < o + vs.length
    · rw [List.getElem?_append_left (by omega), if_pos (by omega)]
    · rw [List.getElem?_append_right (by omega), if_neg (by omega), List.getElem?_drop]
      congr 1; omega

theorem splice_append_left {A B vs : List Value} {o : Nat} (h : o + vs.length ≤ A.length) : splice (A ++ B) o vs = splice A o vs ++ B := by
  unfold splice
  rw [List.take_append_of_le_length (by omega), List.drop_append_of_le_length (by omega)]
  simp [List.append_assoc]

theorem splice_append_right {A B vs : List Value} {o : Nat} : splice (A ++ B) (A.length + o) vs = A ++ splice B o vs := by
  unfold splice
  rw [List.take_length_add_append, Nat.add_assoc, List.drop_length_add_append]
  simp [List.append_assoc]

theorem set_eq_splice {cs : List Value} {j : Nat} {v : Value} (h : j < cs.length) : cs.set j v = splice cs j [v] := by
  unfold splice
  rw [List.set_eq_take_append_cons_drop, if_pos h]
  simp

theorem Blk.splice1 {w : World} {b : Nat} {cs : List Value} (h : Blk w b cs) {o : Nat} (ho : o < cs.length) (v : Value) : Blk (w.setCell ⟨b, o, none⟩ v) b (splice cs o [v]) := by
  rw [← set_eq_splice ho]; exact h.set o v

section
variable {P : Program}

theorem addr_add (g o i : Nat) : (⟨g, o, none⟩ : Addr).add i = ⟨g, o + i, none⟩ := by unfold Addr.add; split <;> simp_all

theorem run_loadCells_blk {w : World} {b : Nat} {cs : List Value} (h : Blk w b cs) (off n : Nat) (hn : off + n ≤ cs.length) :
    (loadCells ⟨b, off, none⟩ n).run P w = .ok ((cs.drop off).take n).toArray w := by
  have hl : ((cs.drop off).take n).length = n := by simp; omega
  have := run_loadCells_list (P := P) w ⟨b, off, none⟩ ((cs.drop off).take n) (fun j v hv => by
    rw [addr_add]
    refine h.cell ?_
    rw [List.getElem?_take] at hv
    split at hv
    · rw [List.getElem?_drop] at hv; exact hv
    · cases hv)
  rw [hl] at this
  exact this

theorem run_storeCells_blk : ∀ (vs : List Value) (i : Nat) (cs : List Value) (w : World) (b off : Nat), Blk w b cs → off + i + vs.length ≤ cs.length → (∀ v ∈ vs, v.oneCell' = true) →
    ∃ w', (storeCells ⟨b, off, none⟩ vs i).run P w = .ok () w' ∧ Blk w' b (splice cs (off + i) vs) ∧ Only [b] w w' ∧ w'.heap.size = w.heap.size
  | [], i, cs, w, b, off, hb, _, _ => ⟨w, rfl, by simpa [splice] using hb, Only.refl _ _, rfl⟩
  | v :: rest, i, cs, w, b, off, hb, hl, h1 => by
    have hi : off + i < cs.length := by simp at hl; omega
    have hcell := hb.cell (o := off + i) (List.getElem?_eq_getElem hi)
    have hfro := hb.free (off + i) hi
    have hst : (store ((⟨b, off, none⟩ : Addr).add i) v).run P w = .ok () (w.setCell ⟨b, off + i, none⟩ v) := by
      rw [addr_add, run_store P w _ v _ (h1 v (by simp)), hcell]
      simp [hfro]
    obtain ⟨w', hr, hb', ho', hsz⟩ := run_storeCells_blk rest (i + 1) (cs.set (off + i) v) (w.setCell ⟨b, off + i, none⟩ v) b off (hb.set _ _) (by simp at hl ⊢; omega) (fun x hx => h1 x (by simp [hx]))
    refine ⟨w', ?_, ?_, ?_, by rw [hsz]; simp [World.setCell]⟩
    · simp only [storeCells, Sem.run_bind, hst, Result.andThen_ok, hr]
    · have e := list_seg_step cs (off + i) v rest (by simp at hl ⊢; omega)
      have e2 : splice (cs.set (off + i) v) (off + (i + 1)) rest = splice cs (off + i) (v :: rest) := by
        unfold splice; rw [← Nat.add_assoc]; simpa using e
      rwa [e2] at hb'
    · exact ((Only.refl [b] w).setCell (.inl (by simp)) v).trans1 ho'

/-- the operation o, carried out, gives v in the world w', and R holds of them -/
def does (P : Program) (o : Oper) (a : Act) (w : World) (R : Value → World → Prop) : Prop :=
  ∃ v w', ((execOp a.eval o).run P w = .ok (.value v) w' ∨ ((execOp a.eval o).run P w = .ok .skip w' ∧ v = undef)) ∧ R v w'

theorem does.mono {o : Oper} {a : Act} {w : World} {R R' : Value → World → Prop} (h : does P o a w R) (hr : ∀ v w', R v w' → R' v w') : does P o a w R' := by
  obtain ⟨v, w', h1, h2⟩ := h
  exact ⟨v, w', h1, hr v w' h2⟩

theorem wp_does {o : Oper} {a : Act} {w : World} {R : Value → World → Prop} {K : Act → World → Prop} {Q : Exit → Act → World → Prop}
    (h : does P o a w R) (hk : ∀ v w', R v w' → K (a.put o.dst v) w') : o.wp P a w K Q := by
  obtain ⟨v, w', h1, h2⟩ := h
  unfold Oper.wp
  rcases h1 with h1 | ⟨h1, rfl⟩
  · rw [h1]; exact hk v w' h2
  · rw [h1]; exact hk _ w' h2

theorem wpList_does {ops : Array Oper} {rest : List Oper} {o : Oper} {a : Act} {w : World} {Q : Exit → Act → World → Prop} {R : Value → World → Prop} (hg : o.guard = none)
    (h : does P o a w R) (hk : ∀ v w', R v w' → wpList P ops Q rest (a.put o.dst v) w') : wpList P ops Q (o :: rest) a w :=
  wpList_plain hg fun _ hK => wp_does h (fun v w' hr => hK _ _ (hk v w' hr))

theorem wpList_doesG {ops : Array Oper} {rest : List Oper} {o : Oper} {a : Act} {w : World} {Q : Exit → Act → World → Prop} {R : Value → World → Prop} (hg : Region.wanted o (yielded ops a.tmps) = true)
    (h : does P o a w R) (hk : ∀ v w', R v w' → wpList P ops Q rest (a.put o.dst v) w') : wpList P ops Q (o :: rest) a w :=
  wpList_step fun _ hK => by rw [if_pos hg]; exact wp_does h (fun v w' hr => hK _ _ (hk v w' hr))

def aggDesc : TypeDesc → Bool | .struct _ | .array _ _ => true | _ => false

theorem run_isAgg {t : TypeId} {d : TypeDesc} (hu : P.underlying t = some d) (hd : aggDesc d = true) (w : World) : (isAgg t).run P w = .ok true w := by
  unfold isAgg
  rw [Sem.run_bind, run_underlying hu w]
  cases d <;> simp_all [aggDesc]

theorem run_sizeOf {t : TypeId} {n : Nat} (hi : (P.info? t).map (·.size) = some n) (w : World) : (sizeOf t).run P w = .ok n w := by
  cases hq : P.info? t with
  | none => simp [hq] at hi
  | some i => have : i.size = n := by simpa [hq] using hi
              simp [sizeOf, typeInfo, hq, this]

/-- a struct or an array is read out of a row -/
theorem does_load {o : Oper} {a : Act} {w : World} (ty : TypeId) (x : Operand) (ho : o.op = .load ty x) {b off : Nat} (hx : a.eval x = .pointer (some ⟨b, off, none⟩))
    {cs : List Value} (hb : Blk w b cs) {d : TypeDesc} (hu : P.underlying ty = some d) (hd : aggDesc d = true) {n : Nat} (hi : (P.info? ty).map (·.size) = some n) (hn : off + n ≤ cs.length) :
    does P o a w (fun v w' => v = .agg ((cs.drop off).take n).toArray ∧ w = w') := by
  refine ⟨_, _, .inl ?_, rfl, rfl⟩
  simp [execOp, ho, hx, Instr.loadAt, Instr.sureAddr, loadVar, run_isAgg hu hd, run_sizeOf hi, run_loadCells_blk hb off n hn]

/-- a struct or an array is stored into a row -/
theorem does_store {o : Oper} {a : Act} {w : World} (ty : TypeId) (x y : Operand) (ho : o.op = .store ty x y) {b off : Nat} (hx : a.eval x = .pointer (some ⟨b, off, none⟩))
    {vs : Array Value} (hy : a.eval y = .agg vs) {cs : List Value} (hb : Blk w b cs) {n : Nat} (hi : (P.info? ty).map (·.size) = some n) (hvs : vs.size = n) (hn : off + n ≤ cs.length)
    (h1 : ∀ v ∈ vs.toList, v.oneCell' = true) :
    does P o a w (fun v w' => v = undef ∧ Blk w' b (splice cs off vs.toList) ∧ Only [b] w w' ∧ w'.heap.size = w.heap.size) := by
  obtain ⟨w', hr, hb', ho', hsz⟩ := run_storeCells_blk (P := P) vs.toList 0 cs w b off hb (by simp [hvs]; omega) h1
  refine ⟨_, w', .inr ⟨?_, rfl⟩, rfl, hb', ho', hsz⟩
  have hsn : ((Value.agg vs).cells.size ≠ n) = False := by simp [Value.cells, hvs]
  simp [execOp, ho, hx, hy, Instr.storeAt, Instr.sureAddr, storeVar, run_sizeOf hi, Value.cells, hvs, hr]

theorem madeCells_toList (z : Array Value) : ∀ n, (madeCells z (n * z.size)).toList = (List.replicate n z.toList).flatten := by
  intro n
  apply List.ext_getElem?
  intro j
  simp only [madeCells, Array.toList_map, Array.toList_range, List.getElem?_map]
  induction n generalizing j with
  | zero => simp
  | succ n ih =>
    rw [List.replicate_succ, List.flatten_cons]
    by_cases hz : z.size = 0
    · have : z = #[] := by simpa using hz
      subst this
      have hr : ∀ n : Nat, (List.replicate n ([] : List Value)).flatten = [] := fun n => by induction n <;> simp_all [List.replicate_succ]
      simp [hr]
    · by_cases hj : j < z.size
      · rw [List.getElem?_append_left (by simpa using hj), List.getElem?_range (by rw [Nat.add_mul]; omega)]
        simp [Nat.mod_eq_of_lt hj, hj]
      · rw [List.getElem?_append_right (by simpa using hj)]
        have := ih (j - z.toList.length)
        rw [← this]
        simp only [Array.length_toList]
        by_cases hjj : j < (n + 1) * z.size
        · rw [List.getElem?_range hjj, List.getElem?_range (by rw [Nat.add_mul] at hjj; omega)]
          simp only [Option.map_some]
          rw [Nat.mod_eq_sub_mod (by omega)]
        · rw [List.getElem?_eq_none (by simpa using hjj), List.getElem?_eq_none (by simp; rw [Nat.add_mul] at hjj; omega)]

/-- make([]T, n) -/
theorem does_make {o : Oper} {a : Act} {w : World} (t : TypeId) (l c : Operand) (ho : o.op = .makeSlice t l c) {kl kc : IntKind} {L C : Int} {n m : Nat} (hl : a.eval l = .int kl L) (hc : a.eval c = .int kc C)
    (hL : L = (n : Int)) (hC : C = (m : Int)) (hnm : n ≤ m) {e : TypeId} {z : Value} {size bytes : Nat} (hu : P.underlying t = some (.slice e)) (hi : (P.info? e).map (fun i => (i.zero, i.size, i.bytes)) = some (some z, size, bytes)) (hz : z.cells.size = size)
    (hb : bytes * m ≤ 281474976710656) (hm : m ≤ 9223372036854775807) :
    does P o a w (fun v w' => v = .slice (some ⟨w.heap.size, 0, none⟩) n m ∧ Blk w' w.heap.size (List.replicate m z.cells.toList).flatten ∧ Only [] w w' ∧ w'.heap.size = w.heap.size + 1) := by
  obtain ⟨i, hi1, hi2, hi3, hi4⟩ := info_parts hi
  subst hL hC
  have hb' : (i.bytes : Int) * (m : Int) ≤ 281474976710656 := by
    rw [hi4]
    have h : ((bytes * m : Nat) : Int) ≤ 281474976710656 := by omega
    rwa [Int.natCast_mul] at h
  have hr := run_make (P := P) w t e i z hu hi1 hi2 kl kc n m (by omega) (by omega) hb' (by omega)
  refine ⟨.slice (some ⟨w.heap.size, 0, none⟩) n m, w.alloc (.cells (madeCells z.cells (m * i.size)) e), .inl (by simp [execOp, ho, hl, hc, hr]), rfl, ?_, (Only.refl _ _).alloc _, by simp⟩
  have := Blk.new' w (madeCells z.cells (m * i.size)) e
  rw [hi3, ← hz, madeCells_toList] at this
  rw [hi3, ← hz]
  exact this

theorem flat1 (n : Nat) (v : Value) : (List.replicate n [v]).flatten = List.replicate n v := by
  induction n with
  | zero => rfl
  | succ n ih => simp [List.replicate_succ, ih]

theorem flat_len (n : Nat) (l : List Value) : (List.replicate n l).flatten.length = n * l.length := by simp

/-- bytes as cells -/
def bytesV (l : List UInt8) : List Value := l.map fun c => .int .u8 (c.toNat : Int)

theorem bytesV_length (l : List UInt8) : (bytesV l).length = l.length := by simp [bytesV]
theorem bytesV_one (l : List UInt8) : ∀ v ∈ bytesV l, v.oneCell' = true := by
  intro v hv
  simp only [bytesV, List.mem_map] at hv
  obtain ⟨c, _, rfl⟩ := hv
  rfl
theorem bytesV_get (l : List UInt8) (j : Nat) : (bytesV l)[j]? = l[j]?.map fun c => .int .u8 (c.toNat : Int) := by simp [bytesV]

/-- copy(dst, s), s a string -/
theorem does_copy_str {o : Oper} {a : Act} {w : World} (dT sT : TypeId) (d x : Operand) (ho : o.op = .call { callee := .builtin .copy, args := #[d, x], argTypes := #[dT, sT] })
    {b off dLen dCap : Nat} (hd : a.eval d = .slice (some ⟨b, off, none⟩) dLen dCap) {s : ByteArray} (hx : a.eval x = .string s) {cs : List Value} (hb : Blk w b cs) {e : TypeId}
    (hu : P.underlying dT = some (.slice e)) (hi : (P.info? e).map (·.size) = some 1) (hfit : off + min s.size dLen ≤ cs.length) :
    does P o a w (fun v w' => v = .int .i64 ((min s.size dLen : Nat) : Int) ∧ Blk w' b (splice cs off (bytesV (s.data.toList.take dLen))) ∧ Only [b] w w' ∧ w'.heap.size = w.heap.size) := by
  have hsz : s.data.size = s.size := rfl
  have hlen : (bytesV (s.data.toList.take dLen)).length = min s.size dLen := by simp [bytesV, hsz, Nat.min_comm]
  obtain ⟨w', hr, hb', ho', hs'⟩ := run_storeCells_blk (P := P) (bytesV (s.data.toList.take dLen)) 0 cs w b off hb (by rw [hlen]; simpa using hfit) (bytesV_one _)
  refine ⟨.int .i64 ((min s.size dLen : Nat) : Int), w', .inl ?_, rfl, hb', ho', hs'⟩
  have he : ((s.extract 0 (min s.size dLen)).data.map fun b => Value.int .u8 (b.toNat : Int)).toList = bytesV (s.data.toList.take dLen) := by
    simp [bytesV, ByteArray.extract, ByteArray.copySlice, hsz]
    omega
  have hf : (Builtin.firstCells 1 (Nat.min s.size dLen) (.string s)).run P w = .ok (bytesV (s.data.toList.take dLen)).toArray w := by
    simp only [Builtin.firstCells, Sem.run_pure]
    rw [← he, Array.toArray_toList]
  simp [execOp, ho, hd, hx, resolve, invoke, builtin, Builtin.copy_, run_underlying hu, run_sizeOf hi, Builtin.lenOf, hf, hr, goInt]

/-- clear(x), x a slice -/
theorem does_clear {o : Oper} {a : Act} {w : World} (t : TypeId) (x : Operand) (ho : o.op = .call { callee := .builtin .clear, args := #[x], argTypes := #[t] })
    {b off n cap : Nat} (hx : a.eval x = .slice (some ⟨b, off, none⟩) n cap) {cs : List Value} (hb : Blk w b cs) {e : TypeId}
    (hu : P.underlying t = some (.slice e)) {z : Value} (hi : (P.info? e).map (fun i => i.zero) = some (some z)) (h1 : ∀ v ∈ z.cells.toList, v.oneCell' = true) (hfit : off + n * z.cells.size ≤ cs.length) :
    does P o a w (fun v w' => v = .tuple #[] ∧ Blk w' b (splice cs off (List.replicate n z.cells.toList).flatten) ∧ Only [b] w w' ∧ w'.heap.size = w.heap.size) := by
  cases n with
  | zero =>
    refine ⟨.tuple #[], w, .inl ?_, rfl, by simpa [splice] using hb, Only.refl _ _, rfl⟩
    simp [execOp, ho, hx, resolve, invoke, builtin, Builtin.clear_, run_underlying hu]
  | succ n =>
    have hz : (zeroValue e).run P w = .ok z w := by
      cases hq : P.info? e with
      | none => simp [hq] at hi
      | some i => have : i.zero = some z := by simpa [hq] using hi
                  simp [zeroValue, typeInfo, hq, this]
    have hm : (Builtin.zeroCells z.cells (n + 1)).toList = (List.replicate (n + 1) z.cells.toList).flatten := madeCells_toList _ _
    have hlen : (List.replicate (n + 1) z.cells.toList).flatten.length = (n + 1) * z.cells.size := by simp
    obtain ⟨w', hr, hb', ho', hs'⟩ := run_storeCells_blk (P := P) (List.replicate (n + 1) z.cells.toList).flatten 0 cs w b off hb (by rw [hlen]; simpa using hfit)
      (fun v hv => by
        simp only [List.mem_flatten, List.mem_replicate] at hv
        obtain ⟨l, ⟨_, rfl⟩, hv⟩ := hv
        exact h1 v hv)
    refine ⟨.tuple #[], w', .inl ?_, rfl, hb', ho', hs'⟩
    simp [execOp, ho, hx, resolve, invoke, builtin, Builtin.clear_, run_underlying hu, hz, hm, hr]

/-- string(x), x a slice of bytes -/
theorem does_string {o : Oper} {a : Act} {w : World} (src dst : TypeId) (x : Operand) (ho : o.op = .convert src dst x)
    {b off n cap : Nat} (hx : a.eval x = .slice (some ⟨b, off, none⟩) n cap) {cs : List Value} (hb : Blk w b cs) {e : TypeId}
    (hs : P.underlying src = some (.slice e)) (he : P.underlying e = some (.int .u8)) (hd : P.underlying dst = some .string) {l : List UInt8} (hl : (cs.drop off).take n = bytesV l) (hn : l.length = n) :
    does P o a w (fun v w' => v = .string ⟨l.toArray⟩ ∧ w = w') := by
  subst hn
  have hr := run_convert_bytes_back (P := P) w src dst e ⟨b, off, none⟩ cap l hs he hd (fun j hj => by
    rw [addr_add]
    refine hb.cell ?_
    have := congrArg (fun q => q[j]?) hl
    simp only [List.getElem?_take, hj, if_true, List.getElem?_drop, bytesV_get] at this
    rw [this, List.getElem?_eq_getElem hj]; rfl)
  exact ⟨_, w, .inl (by simp [execOp, ho, hx, hr]), rfl, rfl⟩

/-- string(x), x nil -/
theorem does_string_nil {o : Oper} {a : Act} {w : World} (src dst : TypeId) (x : Operand) (ho : o.op = .convert src dst x)
    {n cap : Nat} (hx : a.eval x = .slice none n cap) {e : TypeId}
    (hs : P.underlying src = some (.slice e)) (he : P.underlying e = some (.int .u8)) (hd : P.underlying dst = some .string) :
    does P o a w (fun v w' => v = .string ⟨#[]⟩ ∧ w = w') := by
  refine ⟨_, w, .inl ?_, rfl, rfl⟩
  simp [execOp, ho, hx, run_convert_bytes_string w src dst e none n cap hs he hd, Conv.bytesToString]
  rfl

/-- []byte(s) -/
theorem does_bytes {o : Oper} {a : Act} {w : World} (src dst : TypeId) (x : Operand) (ho : o.op = .convert src dst x) {s : ByteArray} (hx : a.eval x = .string s) {e : TypeId}
    (hs : P.underlying src = some .string) (hd : P.underlying dst = some (.slice e)) (he : P.underlying e = some (.int .u8)) :
    does P o a w (fun v w' => ∃ cap, s.size ≤ cap ∧ v = .slice (some ⟨w.heap.size, 0, none⟩) s.size cap ∧ Blk w' w.heap.size (bytesV (s.data.toList ++ List.replicate (cap - s.size) 0)) ∧ Only [] w w' ∧ w'.heap.size = w.heap.size + 1) := by
  have hr := run_bytes_of_string (P := P) w src dst e s hs hd he
  have hsz : s.data.size = s.size := rfl
  have hcap : s.size ≤ grownCap w s.size 0 e := grownCap_ge w s.size 0 e
  refine ⟨_, _, .inl (by simp only [execOp, ho, hx]; rw [Sem.run_bind, hr]; rfl), grownCap w s.size 0 e, hcap, rfl, ?_, ((Only.refl _ _).drew).alloc _, by simp⟩
  have hrow : bytesRow s (grownCap w s.size 0 e) = (bytesV (s.data.toList ++ List.replicate (grownCap w s.size 0 e - s.size) 0)).toArray := by
    apply Array.ext'
    simp [bytesRow, bytesV]
  refine ⟨e, (bytesRow s (grownCap w s.size 0 e)).size, (bytesRow s (grownCap w s.size 0 e)).size + 1, ?_, .inr ?_⟩
  · rw [← hrow]; exact heap_alloc_new _ _
  · rw [hrow]; simp

/-- v is a slice of n elements of 'size' cells: nil, or at the head of a row of its own whose first cells are xs; foot: the row's block -/
def Own (w : World) (v : Value) (n size : Nat) (xs : List Value) (foot : List Nat) : Prop :=
  xs.length = n * size ∧
  ((v = .slice none 0 0 ∧ n = 0 ∧ foot = []) ∨
   ∃ b cap sp, v = .slice (some ⟨b, 0, none⟩) n cap ∧ n ≤ cap ∧ Blk w b (xs ++ sp) ∧ (xs ++ sp).length = cap * size ∧ foot = [b])

theorem Own.nil (w : World) (size : Nat) : Own w (.slice none 0 0) 0 size [] [] := ⟨by simp, .inl ⟨rfl, rfl, rfl⟩⟩

theorem Own.lt {w : World} {v : Value} {n size : Nat} {xs : List Value} {foot : List Nat} (h : Own w v n size xs foot) : ∀ k ∈ foot, k < w.heap.size := by
  obtain ⟨_, ⟨_, _, rfl⟩ | ⟨b, cap, sp, _, _, hb, _, rfl⟩⟩ := h
  · intro k hk; cases hk
  · intro k hk; simp only [List.mem_singleton] at hk; subst hk; exact hb.lt

theorem Own.congr {w w' : World} {v : Value} {n size : Nat} {xs : List Value} {foot : List Nat} (h : Own w v n size xs foot) (hk : ∀ k ∈ foot, w'.heap[k]? = w.heap[k]?) : Own w' v n size xs foot := by
  obtain ⟨hl, ⟨h1, h2, rfl⟩ | ⟨b, cap, sp, h1, h2, hb, h3, rfl⟩⟩ := h
  · exact ⟨hl, .inl ⟨h1, h2, rfl⟩⟩
  · exact ⟨hl, .inr ⟨b, cap, sp, h1, h2, hb.congr (hk b (by simp)), h3, rfl⟩⟩

theorem Only.own {S : List Nat} {w w' : World} {v : Value} {n size : Nat} {xs : List Value} {foot : List Nat} (h : Only S w w') (ho : Own w v n size xs foot) (hn : ∀ k ∈ foot, k ∉ S) : Own w' v n size xs foot :=
  ho.congr fun k hk => h.block k (ho.lt k hk) (hn k hk)

theorem Own.shape {w : World} {v : Value} {n size : Nat} {xs : List Value} {foot : List Nat} (h : Own w v n size xs foot) : ∃ a cap, v = .slice a n cap ∧ n ≤ cap := by
  obtain ⟨_, ⟨rfl, rfl, _⟩ | ⟨b, cap, sp, rfl, hc, _⟩⟩ := h
  · exact ⟨_, _, rfl, Nat.le_refl _⟩
  · exact ⟨_, _, rfl, hc⟩

/-- an element is there: its row -/
theorem Own.row {w : World} {v : Value} {n size : Nat} {xs : List Value} {foot : List Nat} (h : Own w v n size xs foot) (hn : 0 < n) :
    ∃ b cap sp, v = .slice (some ⟨b, 0, none⟩) n cap ∧ n ≤ cap ∧ Blk w b (xs ++ sp) ∧ foot = [b] := by
  obtain ⟨_, ⟨_, rfl, _⟩ | ⟨b, cap, sp, rfl, hc, hb, _, hf⟩⟩ := h
  · omega
  · exact ⟨b, cap, sp, rfl, hc, hb, hf⟩

theorem Own.cell {w : World} {b o n n' cap size : Nat} {xs : List Value} {foot : List Nat} (h : Own w (.slice (some ⟨b, o, none⟩) n' cap) n size xs foot) {j : Nat} {v : Value} (hv : xs[j]? = some v) : w.cell? ⟨b, j, none⟩ = some v := by
  obtain ⟨_, ⟨h0, _⟩ | ⟨b', cap', sp, h0, hc, hb, _, hf⟩⟩ := h
  · cases h0
  · cases h0
    exact hb.cell (by rw [List.getElem?_append_left (List.getElem?_eq_some_iff.1 hv).1]; exact hv)

theorem run_firstCells_blk {w : World} {b : Nat} {cs : List Value} (h : Blk w b cs) (size m off len cap : Nat) (hn : off + m * size ≤ cs.length) :
    (Builtin.firstCells size m (.slice (some ⟨b, off, none⟩) len cap)).run P w = .ok ((cs.drop off).take (m * size)).toArray w := by
  simp only [Builtin.firstCells]
  exact run_loadCells_blk h off (m * size) hn

theorem firstCells_of_blk {w : World} {b : Nat} {cs : List Value} (h : Blk w b cs) (size m off len cap : Nat) (hn : off + m * size ≤ cs.length) {news : List Value} (he : (cs.drop off).take (m * size) = news) :
    ∀ w1 : World, w1.heap = w.heap → (Builtin.firstCells size m (.slice (some ⟨b, off, none⟩) len cap)).run P w1 = .ok news.toArray w1 := by
  intro w1 hw
  rw [← he]
  exact run_firstCells_blk (h.congr (by rw [hw])) size m off len cap hn

theorem lenOf_slice (a : Option Addr) (n c : Nat) : ∀ w1 : World, (Builtin.lenOf (.slice a n c)).run P w1 = .ok n w1 := fun _ => rfl
theorem lenOf_string (s : ByteArray) : ∀ w1 : World, (Builtin.lenOf (.string s)).run P w1 = .ok s.size w1 := fun _ => rfl

theorem append_room {P : Program} {w : World} {b n cap size m : Nat} {xs sp news : List Value} {t t2 ty e : TypeId} {i : TypeInfo} {xv : Value} {d2 : TypeDesc}
    (hu : P.underlying t = some (.slice e)) (hu2 : P.underlying t2 = some d2) (hd2 : ∀ k, d2 ≠ .int k) (hi : P.info? e = some i) (hsz : i.size = size)
    (hx1 : ∀ w1, (Builtin.lenOf xv).run P w1 = .ok m w1) (hx2 : (Builtin.firstCells size m xv).run P w = .ok news.toArray w)
    (hl : xs.length = n * size) (hnl : news.length = m * size) (h1 : ∀ v ∈ news, v.oneCell' = true) (hb : Blk w b (xs ++ sp)) (hlen : (xs ++ sp).length = cap * size) (hroom : n + m ≤ cap) :
    ∃ w', (Builtin.append_ #[t, t2] ty #[.slice (some ⟨b, 0, none⟩) n cap, xv]).run P w = .ok (.slice (some ⟨b, 0, none⟩) (n + m) cap) w' ∧ Blk w' b (xs ++ news ++ sp.drop (m * size)) ∧ Only [b] w w' ∧ w'.heap.size = w.heap.size := by
  have hfit : n * size + m * size ≤ cap * size := by rw [← Nat.add_mul]; exact Nat.mul_le_mul_right _ hroom
  obtain ⟨w', hr, hb', ho', hs'⟩ := run_storeCells_blk (P := P) news 0 (xs ++ sp) w b (n * size) hb (by omega) h1
  have he : splice (xs ++ sp) (n * size + 0) news = xs ++ news ++ sp.drop (m * size) := by
    unfold splice
    rw [Nat.add_zero, ← hl, List.take_left, List.drop_append]
    simp [hnl]
  rw [he] at hb'
  refine ⟨w', ?_, hb', ho', hs'⟩
  have hint : ((match d2 with | .int _ => true | _ => false) : Bool) = false := by cases d2 <;> first | rfl | exact absurd rfl (hd2 _)
  subst hsz
  simp [Builtin.append_, run_underlying hu, run_underlying hu2, hint, sizeOf, typeInfo, hi, hx1, hx2, hroom, addr_add, hr]

theorem append_grows {P : Program} {w : World} {base : Option Addr} {n cap size bytes m : Nat} {xs news : List Value} {t t2 ty e : TypeId} {i : TypeInfo} {z xv : Value} {d2 : TypeDesc}
    (hu : P.underlying t = some (.slice e)) (hu2 : P.underlying t2 = some d2) (hd2 : ∀ k, d2 ≠ .int k) (hi : P.info? e = some i) (hsz : i.size = size) (hz : i.zero = some z) (hzs : z.cells.size = size) (hby : i.bytes = bytes)
    (hx1 : ∀ w1, (Builtin.lenOf xv).run P w1 = .ok m w1) (hx2 : (Builtin.firstCells size m xv).run P w.drew = .ok news.toArray w.drew)
    (hold : (Builtin.firstCells size n (.slice base n cap)).run P w.drew = .ok xs.toArray w.drew)
    (hl : xs.length = n * size) (hnl : news.length = m * size) (hroom : ¬ n + m ≤ cap) (hbytes : (n + m) * bytes ≤ 140737488355328) (hmax : n + m ≤ 9223372036854775807) :
    ∃ w' cap' sp, (Builtin.append_ #[t, t2] ty #[.slice base n cap, xv]).run P w = .ok (.slice (some ⟨w.heap.size, 0, none⟩) (n + m) cap') w' ∧ n + m ≤ cap' ∧ Blk w' w.heap.size (xs ++ news ++ sp) ∧
      (xs ++ news ++ sp).length = cap' * size ∧ Only [] w w' ∧ w'.heap.size = w.heap.size + 1 := by
  have hint : ((match d2 with | .int _ => true | _ => false) : Bool) = false := by cases d2 <;> first | rfl | exact absurd rfl (hd2 _)
  have hge := grownCap_ge w (n + m) cap e
  refine ⟨w.drew.alloc (.cells (xs.toArray ++ news.toArray ++ Builtin.zeroCells z.cells (grownCap w (n + m) cap e - (n + m))) e), grownCap w (n + m) cap e, (Builtin.zeroCells z.cells (grownCap w (n + m) cap e - (n + m))).toList, ?_, hge, ?_, ?_, ((Only.refl _ _).drew).alloc _, by simp⟩
  · subst hsz hby
    have h48 : ¬ (281474976710656 < Builtin.nextslicecap (n + m) cap * i.bytes) := by have := growslice_fits (need := n + m) (old := cap) (bytes := i.bytes) (by omega) hbytes; omega
    have hmx' : ¬ (9223372036854775807 < (n : Int) + (m : Int) ∧ i.bytes = 0) := by omega
    have hzv : ∀ w1, (zeroValue e).run P w1 = .ok z w1 := fun w1 => by simp [zeroValue, typeInfo, hi, hz]
    simp [Builtin.append_, run_underlying hu, run_underlying hu2, hint, sizeOf, typeInfo, hi, hx1, hroom, h48, hmx', hzv, hx2, hold, Question.forced, newRow, grownCap]
    rw [← Array.append_assoc]; simp
  · have := Blk.new' w.drew (xs.toArray ++ news.toArray ++ Builtin.zeroCells z.cells (grownCap w (n + m) cap e - (n + m))) e
    simpa using this
  · simp only [List.length_append, Array.length_toList, size_zeroCells, hzs, hl, hnl, ← Nat.add_mul]
    congr 1; omega

/-- append(s, x...): s is nil or has a row of its own -/
theorem does_append {o : Oper} {a : Act} {w : World} (t t2 : TypeId) (s x : Operand) (ho : o.op = .call { callee := .builtin .append, args := #[s, x], argTypes := #[t, t2] })
    {sv xv : Value} (hs : a.eval s = sv) (hx : a.eval x = xv) {n size bytes m : Nat} {xs news : List Value} {foot : List Nat} (hown : Own w sv n size xs foot)
    {e : TypeId} {z : Value} {d2 : TypeDesc} (hu : P.underlying t = some (.slice e)) (hu2 : P.underlying t2 = some d2) (hd2 : ∀ k, d2 ≠ .int k)
    (hi : (P.info? e).map (fun i => (i.zero, i.size, i.bytes)) = some (some z, size, bytes)) (hzs : z.cells.size = size) (h0 : 0 < size)
    (hx1 : ∀ w1, (Builtin.lenOf xv).run P w1 = .ok m w1) (hx2 : ∀ w1 : World, w1.heap = w.heap → (Builtin.firstCells size m xv).run P w1 = .ok news.toArray w1)
    (hnl : news.length = m * size) (h1 : ∀ v ∈ news, v.oneCell' = true) (hbytes : (n + m) * bytes ≤ 140737488355328) (hmax : n + m ≤ 9223372036854775807) :
    does P o a w (fun v w' => ∃ foot', Own w' v (n + m) size (xs ++ news) foot' ∧ Only foot w w' ∧ (∀ k ∈ foot', k ∈ foot ∨ w.heap.size ≤ k) ∧ (v = .slice none 0 0 → sv = .slice none 0 0)) := by
  obtain ⟨i, hi1, hi2, hi3, hi4⟩ := info_parts hi
  have hll : (xs ++ news).length = (n + m) * size := by rw [List.length_append, hown.1, hnl, Nat.add_mul]
  have hex : ∀ v w', (Builtin.append_ #[t, t2] o.type #[sv, xv]).run P w = .ok v w' → (execOp a.eval o).run P w = .ok (.value v) w' := fun v w' hr => by
    simp [execOp, ho, hs, hx, resolve, invoke, builtin, hr]
  obtain ⟨hl, ⟨rfl, rfl, rfl⟩ | ⟨b, cap, sp, rfl, hc, hb, hlen, rfl⟩⟩ := hown
  · have hxs : xs = [] := List.eq_nil_of_length_eq_zero (by simpa using hl)
    subst hxs
    by_cases hm : m = 0
    · subst hm
      have hn : news = [] := List.eq_nil_of_length_eq_zero (by simpa using hnl)
      subst hn
      refine ⟨.slice none 0 0, w, .inl (hex _ _ ?_), [], Own.nil w size, Only.refl _ _, by simp, fun h => h⟩
      have hint : ((match d2 with | .int _ => true | _ => false) : Bool) = false := by cases d2 <;> first | rfl | exact absurd rfl (hd2 _)
      subst hi3
      simp [Builtin.append_, run_underlying hu, run_underlying hu2, hint, sizeOf, typeInfo, hi1, hx1, hx2 w rfl]
    · obtain ⟨w', cap', sp, hr, hc', hb', hl', ho', hs'⟩ := append_grows (P := P) (w := w) (base := none) (n := 0) (cap := 0) (ty := o.type) hu hu2 hd2 hi1 hi3 hi2 hzs hi4 hx1 (hx2 w.drew rfl) (xs := []) (by simp [Builtin.firstCells]) (by simp) hnl (by omega) hbytes hmax
      exact ⟨_, w', .inl (hex _ _ hr), [w.heap.size], ⟨hll, .inr ⟨_, cap', sp, rfl, hc', hb', hl', rfl⟩⟩, ho', by simp, fun _ => rfl⟩
  · by_cases hroom : n + m ≤ cap
    · obtain ⟨w', hr, hb', ho', hs'⟩ := append_room (P := P) (ty := o.type) hu hu2 hd2 hi1 hi3 hx1 (hx2 w rfl) hl hnl h1 hb hlen hroom
      refine ⟨_, w', .inl (hex _ _ hr), [b], ⟨hll, .inr ⟨b, cap, sp.drop (m * size), rfl, hroom, hb', ?_, rfl⟩⟩, ho', by simp, fun h => by cases h⟩
      have hfit : n * size + m * size ≤ cap * size := by rw [← Nat.add_mul]; exact Nat.mul_le_mul_right _ hroom
      simp only [List.length_append, List.length_drop, hnl, hl] at hlen ⊢
      omega
    · have hold := run_firstCells_blk (P := P) (w := w.drew) (b := b) (cs := xs ++ sp) hb size n 0 n cap (by simp [hl])
      simp only [List.drop_zero] at hold
      rw [← hl, List.take_left] at hold
      obtain ⟨w', cap', sp', hr, hc', hb', hl', ho', hs'⟩ := append_grows (P := P) (w := w) (ty := o.type) hu hu2 hd2 hi1 hi3 hi2 hzs hi4 hx1 (hx2 w.drew rfl) hold hl hnl hroom hbytes hmax
      exact ⟨_, w', .inl (hex _ _ hr), [w.heap.size], ⟨hll, .inr ⟨_, cap', sp', rfl, hc', hb', hl', rfl⟩⟩, ho'.mono (by simp), by simp, fun h => by cases h⟩

/-- a bound of a slice expression, as a number -/
def bnd (a : Act) (x : Option Operand) (dflt n : Nat) : Prop := match x with | none => n = dflt | some y => ∃ k, a.eval y = .int k (n : Int)

theorem bnd_some {a : Act} {y : Operand} {d n : Nat} {k : IntKind} (h : a.eval y = .int k (n : Int)) : bnd a (some y) d n := ⟨k, h⟩
theorem bnd_none {a : Act} {d : Nat} : bnd a none d d := rfl

theorem run_sliceBounds {a : Act} {w : World} (isSlice : Bool) (len cap : Nat) (lo hi : Option Operand) (L H : Nat) (hlo : bnd a lo 0 L) (hhi : bnd a hi len H) (h1 : L ≤ H) (h2 : H ≤ cap) :
    (Instr.sliceBounds isSlice len cap (lo.map a.eval) (hi.map a.eval) none).run P w = .ok (L, H, cap) w := by
  unfold Instr.sliceBounds
  cases hi with
  | none =>
    simp only [bnd] at hhi; subst hhi
    cases lo with
    | none => simp only [bnd] at hlo; subst hlo; simp
    | some y =>
      obtain ⟨k, hk⟩ := hlo
      have : (L : Int) ≤ (H : Int) := by omega
      simp [hk, Instr.sliceBound, asIntOf, this, h1]
  | some z =>
    obtain ⟨k2, hk2⟩ := hhi
    have g2 : (H : Int) ≤ (cap : Int) := by omega
    cases lo with
    | none => simp only [bnd] at hlo; subst hlo; simp [hk2, Instr.sliceBound, asIntOf, g2, h2]
    | some y =>
      obtain ⟨k, hk⟩ := hlo
      have : (L : Int) ≤ (H : Int) := by omega
      simp [hk, hk2, Instr.sliceBound, asIntOf, this, h1, g2, h2]

/-- x[lo:hi], x an array that lies in a row -/
theorem does_slice_arr {o : Oper} {a : Act} {w : World} (t : TypeId) (x : Operand) (lo hi : Option Operand) (ho : o.op = .slice t x lo hi none) {b off : Nat} (hx : a.eval x = .pointer (some ⟨b, off, none⟩))
    {N : Nat} {e : TypeId} (hu : P.underlying t = some (.array N e)) {sz : Nat} (hs : (P.info? e).map (·.size) = some sz) (L H : Nat) (hlo : bnd a lo 0 L) (hhi : bnd a hi N H) (h1 : L ≤ H) (h2 : H ≤ N) :
    does P o a w (fun v w' => v = .slice (some ⟨b, if N = L then off else off + L * sz, none⟩) (H - L) (N - L) ∧ w = w') := by
  refine ⟨_, w, .inl ?_, rfl, rfl⟩
  have hb := run_sliceBounds (P := P) (w := w) false N N lo hi L H hlo hhi h1 h2
  simp [execOp, ho, hx, Instr.sliceAt, run_underlying hu, Instr.sureAddr, hb, run_sizeOf hs, addr_add]
  split <;> rfl

/-- x[lo:hi], x a slice -/
theorem does_slice {o : Oper} {a : Act} {w : World} (t : TypeId) (x : Operand) (lo hi : Option Operand) (ho : o.op = .slice t x lo hi none) {b off n cap : Nat} (hx : a.eval x = .slice (some ⟨b, off, none⟩) n cap)
    {e : TypeId} (hu : P.underlying t = some (.slice e)) {sz : Nat} (hs : (P.info? e).map (·.size) = some sz) (L H : Nat) (hlo : bnd a lo 0 L) (hhi : bnd a hi n H) (h1 : L ≤ H) (h2 : H ≤ cap) :
    does P o a w (fun v w' => v = .slice (some ⟨b, if cap = L then off else off + L * sz, none⟩) (H - L) (cap - L) ∧ w = w') := by
  refine ⟨_, w, .inl ?_, rfl, rfl⟩
  have hb := run_sliceBounds (P := P) (w := w) true n cap lo hi L H hlo hhi h1 h2
  simp [execOp, ho, hx, Instr.sliceAt, Instr.slice, run_underlying hu, hb, run_sizeOf hs, addr_add]
  split <;> simp_all

/-- a struct or an array is put together; what comes out is a closed fact -/
theorem does_build {o : Oper} {a : Act} {w : World} (t : TypeId) (parts : Array (Nat × Operand)) (ho : o.op = .build t parts) {vs : List (Nat × Value)} (hv : (parts.toList.map fun x => (x.1, a.eval x.2)) = vs) {V : Value}
    (hr : ∀ w, (Instr.build t vs.toArray).run P w = .ok V w) : does P o a w (fun v w' => v = V ∧ w = w') := by
  refine ⟨V, w, .inl ?_, rfl, rfl⟩
  have he : (parts.map fun x => (x.1, a.eval x.2)) = vs.toArray := by
    rw [← hv]; apply Array.ext'; rw [Array.toList_map]
  have hr' := hr w
  rw [← he] at hr'
  simp only [execOp, ho, Sem.run_bind, hr']
  rfl

theorem Own.alloc {w : World} {v : Value} {n size : Nat} {xs : List Value} {foot : List Nat} (h : Own w v n size xs foot) (o : Obj) : Own (w.alloc o) v n size xs foot :=
  h.congr fun k hk => Below.heap_alloc _ _ _ (h.lt k hk)

/-- append(s, v), one value of one cell -/
theorem does_append1 {o : Oper} {a : Act} {w : World} (t : TypeId) (s x : Operand) (ho : o.op = .call { callee := .builtin .append, args := #[s, x], argTypes := #[t, t] })
    {sv : Value} {sb : Nat} (hs : a.eval s = sv) (hx : a.eval x = .slice (some ⟨sb, 0, none⟩) 1 1) {n bytes : Nat} {xs : List Value} {foot : List Nat} (hown : Own w sv n 1 xs foot) {v : Value} (hb : Blk w sb [v]) (h1 : v.oneCell' = true)
    {e : TypeId} {z : Value} (hu : P.underlying t = some (.slice e))
    (hi : (P.info? e).map (fun i => (i.zero, i.size, i.bytes)) = some (some z, 1, bytes)) (hzs : z.cells.size = 1) (hbytes : (n + 1) * bytes ≤ 140737488355328) (hmax : n + 1 ≤ 9223372036854775807) :
    does P o a w (fun v' w' => ∃ foot', Own w' v' (n + 1) 1 (xs ++ [v]) foot' ∧ Only foot w w' ∧ (∀ k ∈ foot', k ∈ foot ∨ w.heap.size ≤ k)) :=
  (does_append (P := P) (w := w) t t s x ho hs hx hown hu hu (by intro k hk; cases hk) hi hzs (by omega) (lenOf_slice _ _ _) (firstCells_of_blk hb 1 1 0 1 1 (by simp) rfl) rfl (by simpa using h1) hbytes hmax).mono
    fun v' w' ⟨f, h1, h2, h3, _⟩ => ⟨f, h1, h2, h3⟩

theorem does_load_at {o : Oper} {a : Act} {w : World} (ty : TypeId) (x : Operand) (ho : o.op = .load ty x) {b off : Nat} (hx : a.eval x = .pointer (some ⟨b, off, none⟩))
    {cs : List Value} (hat : ∀ j v, cs[j]? = some v → w.cell? ⟨b, off + j, none⟩ = some v) {d : TypeDesc} (hu : P.underlying ty = some d) (hd : aggDesc d = true) (hi : (P.info? ty).map (·.size) = some cs.length) :
    does P o a w (fun v w' => v = .agg cs.toArray ∧ w = w') := by
  refine ⟨_, _, .inl ?_, rfl, rfl⟩
  have hr := run_loadCells_list (P := P) w ⟨b, off, none⟩ cs (fun j v hv => by rw [addr_add]; exact hat j v hv)
  simp [execOp, ho, hx, Instr.loadAt, Instr.sureAddr, loadVar, run_isAgg hu hd, run_sizeOf hi, hr]

/-- something that lies in the blocks of foot and says φ of them alone -/
structure Ast where
  foot : List Nat
  φ : World → Prop
  fr : ∀ w w' : World, (∀ k ∈ foot, w'.heap[k]? = w.heap[k]?) → φ w → φ w'

def ownA (v : Value) (n size : Nat) (xs : List Value) (foot : List Nat) : Ast := ⟨foot, fun w => Own w v n size xs foot, fun _ _ hk h => h.congr hk⟩
def blkA (b : Nat) (cs : List Value) : Ast := ⟨[b], fun w => Blk w b cs, fun _ _ hk h => h.congr (hk b (by simp))⟩

/-- what was there in W is as it was; the things As lie apart from it and from each other -/
structure Sepd (W w : World) (As : List Ast) : Prop where
  bel : Below W.heap.size W w
  ap : Apart W.heap.size w.heap.size (As.map (·.foot))
  all : ∀ A ∈ As, A.φ w

theorem Sepd.get {W w : World} {As : List Ast} (h : Sepd W w As) (i : Nat) {A : Ast} (hi : As[i]? = some A) : A.φ w := h.all A (List.mem_of_getElem? hi)

theorem Sepd.own {W w : World} {As : List Ast} (h : Sepd W w As) (i : Nat) {v : Value} {n size : Nat} {xs : List Value} {f : List Nat} (hi : As[i]? = some (ownA v n size xs f)) : Own w v n size xs f := h.get i hi
theorem Sepd.blk {W w : World} {As : List Ast} (h : Sepd W w As) (i : Nat) {b : Nat} {cs : List Value} (hi : As[i]? = some (blkA b cs)) : Blk w b cs := h.get i hi

theorem Sepd.start (W : World) : Sepd W W [] := ⟨Below.refl _ _, Apart.nil _ _, by simp⟩

theorem Sepd.le {W w : World} {As : List Ast} (h : Sepd W w As) : W.heap.size ≤ w.heap.size := h.bel.size

theorem Sepd.dis {W w : World} {As : List Ast} (h : Sepd W w As) (i j : Nat) {A B : Ast} (hij : i ≠ j) (hi : As[i]? = some A) (hj : As[j]? = some B) : ∀ k ∈ A.foot, k ∉ B.foot :=
  h.ap.dis i j A.foot B.foot hij (by simp [hi]) (by simp [hj])

/-- nothing that was there has changed -/
theorem Sepd.only {W w w' : World} {As : List Ast} (h : Sepd W w As) (ho : Only [] w w') : Sepd W w' As :=
  ⟨ho.belowB h.bel (by simp) h.le, h.ap.grow ho.size, fun A hA => A.fr w w' (fun k hk => ho.block k (h.ap.hi A.foot (List.mem_map_of_mem hA) k hk) (by simp)) (h.all A hA)⟩

theorem Sepd.alloc {W w : World} {As : List Ast} (h : Sepd W w As) (o : Obj) : Sepd W (w.alloc o) As := h.only ((Only.refl [] w).alloc o)
theorem Sepd.drew {W w : World} {As : List Ast} (h : Sepd W w As) : Sepd W w.drew As := h.only (Only.refl [] w).drew

/-- a step has changed the thing in place i, and nothing else -/
theorem Sepd.upd {W w w' : World} {As : List Ast} (h : Sepd W w As) (i : Nat) {A A' : Ast} (hi : As[i]? = some A) (ho : Only A.foot w w') (hφ : A'.φ w') (hf : ∀ k ∈ A'.foot, k ∈ A.foot ∨ w.heap.size ≤ k) (hlt : ∀ k ∈ A'.foot, k < w'.heap.size) :
    Sepd W w' (As.set i A') := by
  have hAm : A ∈ As := List.mem_of_getElem? hi
  refine ⟨ho.belowB h.bel (fun k hk => h.ap.lo A.foot (List.mem_map_of_mem hAm) k hk) h.le, ?_, fun B hB => ?_⟩
  · rw [List.map_set]
    exact h.ap.upd i (by simp [hi]) hf hlt ho.size h.le
  · obtain ⟨j, hj⟩ := List.mem_iff_getElem?.1 hB
    rw [List.getElem?_set] at hj
    by_cases hij : i = j
    · subst hij
      rw [if_pos rfl, if_pos (List.getElem?_eq_some_iff.1 hi).1] at hj
      cases hj
      exact hφ
    · rw [if_neg hij] at hj
      have hBm : B ∈ As := List.mem_of_getElem? hj
      exact B.fr w w' (fun k hk => ho.block k (h.ap.hi B.foot (List.mem_map_of_mem hBm) k hk) (h.dis j i (fun e => hij e.symm) hj hi k hk)) (h.all B hBm)

/-- a new thing in new blocks -/
theorem Sepd.add {W w w' : World} {As : List Ast} (h : Sepd W w As) (ho : Only [] w w') {A' : Ast} (hφ : A'.φ w') (hf : ∀ k ∈ A'.foot, w.heap.size ≤ k) (hlt : ∀ k ∈ A'.foot, k < w'.heap.size) : Sepd W w' (As ++ [A']) := by
  have h1 := h.only ho
  refine ⟨h1.bel, ?_, fun B hB => ?_⟩
  · rw [List.map_append]
    exact h.ap.add hf hlt ho.size h.le
  · rcases List.mem_append.1 hB with h2 | h2
    · exact h1.all B h2
    · simp only [List.mem_singleton] at h2; subst h2; exact hφ

/-- x[lo:hi], x a string -/
theorem does_slice_str {o : Oper} {a : Act} {w : World} (t : TypeId) (x : Operand) (lo hi : Option Operand) (ho : o.op = .slice t x lo hi none) {s : ByteArray} (hx : a.eval x = .string s)
    (hu : P.underlying t = some .string) (L H : Nat) (hlo : bnd a lo 0 L) (hhi : bnd a hi s.size H) (h1 : L ≤ H) (h2 : H ≤ s.size) :
    does P o a w (fun v w' => v = .string (s.extract L H) ∧ w = w') := by
  refine ⟨_, w, .inl ?_, rfl, rfl⟩
  have hb := run_sliceBounds (P := P) (w := w) false s.size s.size lo hi L H hlo hhi h1 h2
  simp [execOp, ho, hx, Instr.sliceAt, Instr.slice, run_underlying hu, hb]

/-- a + b, strings -/
theorem does_concat {o : Oper} {a : Act} {w : World} (t t2 : TypeId) (x y : Operand) (ho : o.op = .binOp .add t x y t2) {s u : ByteArray} (hx : a.eval x = .string s) (hy : a.eval y = .string u) (hl : s.size + u.size ≤ 9223372036854775807) :
    does P o a w (fun v w' => v = .string (s ++ u) ∧ w = w') := by
  refine ⟨_, w, .inl ?_, rfl, rfl⟩
  simp only [execOp, ho, hx, hy]
  simp [eqGuard, binOp, Op.stringOp]
  omega

/-- []T{v}, v of one cell -/
theorem does_buildSlice1 {o : Oper} {a : Act} {w : World} (t : TypeId) (x : Operand) (ho : o.op = .buildSlice t 1 #[(0, x)]) {v : Value} (hx : a.eval x = v) (h1 : v.cells = #[v]) {e : TypeId} {z : Value} (hu : P.underlying t = some (.slice e))
    (hi : (P.info? e).map (fun i => (i.zero, i.size)) = some (some z, 1)) (hz : z.cells.size = 1) :
    does P o a w (fun v' w' => v' = .slice (some ⟨w.heap.size, 0, none⟩) 1 1 ∧ Blk w' w.heap.size [v] ∧ Only [] w w' ∧ w'.heap.size = w.heap.size + 1) := by
  obtain ⟨i, hi1, hi2⟩ := Option.map_eq_some_iff.1 hi
  simp only [Prod.mk.injEq] at hi2
  obtain ⟨c, hc⟩ : ∃ c, z.cells = #[c] := by
    generalize z.cells = q at hz
    obtain ⟨l⟩ := q
    match l, hz with
    | [c], _ => exact ⟨c, rfl⟩
  refine ⟨.slice (some ⟨w.heap.size, 0, none⟩) 1 1, w.alloc (.cells #[v] e), .inl ?_, rfl, Blk.new w [v] e, (Only.refl _ _).alloc _, by simp⟩
  have hzv : (zeroValue e).run P w = .ok z w := by simp [zeroValue, typeInfo, hi1, hi2.1]
  have hso : (sizeOf e).run P w = .ok 1 w := by simp [sizeOf, typeInfo, hi1, hi2.2]
  simp [execOp, ho, hx, Instr.buildSlice, run_underlying hu, hso, hzv, hc, Instr.fill, h1, newRow]
  congr 2
  apply Array.ext'
  simp [List.range_succ]
end
end Go.Proofs.YtcbdclhoekokpaaGreatDoor.M
