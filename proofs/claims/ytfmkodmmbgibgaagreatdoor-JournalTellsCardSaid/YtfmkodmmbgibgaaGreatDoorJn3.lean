/- journal, in plain data: lists of blocks -/
import Derived.Test.YtfmkodmmbgibgaaGreatDoorPw
import Derived.Test.YtfmkodmmbgibgaaGreatDoorCellP
import Derived.Lib.Builder
import Derived.Lib.UnsafeStr
import Derived.Laws.AppendOwn
import Derived.Laws.Externs
import Derived.LaidEql
import Derived.Lib.AppendStr
import Derived.Test.YtfmkodmmbgibgaaGreatDoorRefw
import Derived.Test.YtfmkodmmbgibgaaGreatDoorShelf
namespace Go.Proofs.YtfmkodmmbgibgaaGreatDoor
open Go.RowKit M
set_option linter.unusedVariables false
def SortB (l : List Blk) : Prop := l.Pairwise fun a b => a.n < b.n
theorem sort_uniq : ∀ {l m : List Blk}, SortB l → SortB m → (∀ b, b ∈ l ↔ b ∈ m) → l = m
  | [], [], _, _, _ => rfl
  | [], b :: m, _, _, h => absurd ((h b).2 (by simp)) (by simp)
  | a :: l, [], _, _, h => absurd ((h a).1 (by simp)) (by simp)
  | a :: l, b :: m, hl, hm, h => by
    have hl1 := List.pairwise_cons.1 hl
    have hm1 := List.pairwise_cons.1 hm
    have e : a = b := by
      rcases List.mem_cons.1 ((h a).1 (by simp)) with q | q
      · exact q
      · rcases List.mem_cons.1 ((h b).2 (by simp)) with r | r
        · exact r.symm
        · have h1 := hm1.1 a q
          have h2 := hl1.1 b r
          omega
    subst e
    rw [sort_uniq hl1.2 hm1.2 fun c => ⟨fun hc => ?_, fun hc => ?_⟩]
    · rcases List.mem_cons.1 ((h c).1 (by simp [hc])) with q | q
      · subst q; have := hl1.1 _ hc; omega
      · exact q
    · rcases List.mem_cons.1 ((h c).2 (by simp [hc])) with q | q
      · subst q; have := hm1.1 _ hc; omega
      · exact q
def listN (B : Int → Bytes) (m : Nat) : List Blk := (List.range m).filterMap fun n : Nat => if B (n : Int) = [] then none else some ⟨(n : Int), B (n : Int)⟩
theorem listN_all (B : Int → Bytes) : listN B 2048 = listB B := rfl
theorem listN_succ (B : Int → Bytes) (m : Nat) : listN B (m + 1) = listN B m ++ (if B (m : Int) = [] then [] else [⟨(m : Int), B (m : Int)⟩]) := by
  unfold listN; rw [List.range_succ, List.filterMap_append]
  congr 1
  simp only [List.filterMap_cons, List.filterMap_nil]
  split <;> rename_i q <;> split at q <;> simp_all
theorem listN_len (B : Int → Bytes) (m : Nat) : (listN B m).length ≤ m := by
  unfold listN; exact Nat.le_trans (List.length_filterMap_le _ _) (by simp)
theorem mem_listN {B : Int → Bytes} {m : Nat} {b : Blk} : b ∈ listN B m ↔ (0 ≤ b.n ∧ b.n < m) ∧ B b.n = b.d ∧ b.d ≠ [] := by
  unfold listN
  rw [List.mem_filterMap]
  constructor
  · rintro ⟨n, hn, h⟩
    have hn := List.mem_range.1 hn
    split at h
    · cases h
    · rename_i q
      cases h
      exact ⟨⟨by show (0 : Int) ≤ (n : Int); omega, by show (n : Int) < m; omega⟩, rfl, q⟩
  · rintro ⟨⟨h1, h2⟩, h3, h4⟩
    refine ⟨b.n.toNat, List.mem_range.2 (by omega), ?_⟩
    have e : ((b.n.toNat : Nat) : Int) = b.n := by omega
    rw [e, h3, if_neg h4]
theorem mem_listB {B : Int → Bytes} {b : Blk} : b ∈ listB B ↔ (0 ≤ b.n ∧ b.n < 2048) ∧ B b.n = b.d ∧ b.d ≠ [] := by rw [← listN_all]; exact mem_listN
theorem listN_sort (B : Int → Bytes) : ∀ m, SortB (listN B m)
  | 0 => List.Pairwise.nil
  | m + 1 => by
    rw [listN_succ]
    refine List.pairwise_append.2 ⟨listN_sort B m, by split <;> simp, fun a ha b hb => ?_⟩
    have h1 := (mem_listN.1 ha).1.2
    split at hb
    · cases hb
    · simp only [List.mem_singleton] at hb
      subst hb; exact h1
theorem listB_sort (B : Int → Bytes) : SortB (listB B) := listN_sort B 2048
/-- a block is put into a list behind k others; the list goes on at j -/
def insK (l : List Blk) (c : Blk) (k j : Nat) : List Blk := l.take k ++ (if c.d = [] then [] else [c]) ++ l.drop j
theorem sort_lt {l : List Blk} (h : SortB l) {i j : Nat} {a b : Blk} (ha : l[i]? = some a) (hb : l[j]? = some b) (hij : i < j) : a.n < b.n := by
  obtain ⟨i1, e1⟩ := List.getElem?_eq_some_iff.1 ha
  obtain ⟨i2, e2⟩ := List.getElem?_eq_some_iff.1 hb
  have := List.pairwise_iff_getElem.1 h i j i1 i2 hij
  rw [e1, e2] at this; exact this
theorem insK_ok {B : Int → Bytes} {c : Blk} (hc : 0 ≤ c.n ∧ c.n < 2048) {k j : Nat} (hlt : ∀ i b, i < k → (listB B)[i]? = some b → b.n < c.n) (hge : ∀ b, (listB B)[k]? = some b → c.n ≤ b.n)
    (hj : (j = k + 1 ∧ ∃ b, (listB B)[k]? = some b ∧ b.n = c.n) ∨ (j = k ∧ ∀ b, (listB B)[k]? = some b → b.n ≠ c.n)) : insK (listB B) c k j = listB (updB B c.n c.d) := by
  have hs := listB_sort B
  have ht : ∀ a, a ∈ (listB B).take k → a.n < c.n := fun a ha => by
    obtain ⟨i, hi⟩ := List.mem_iff_getElem?.1 ha
    rw [List.getElem?_take] at hi
    split at hi
    · rename_i q; exact hlt i a q hi
    · cases hi
  have hd : ∀ b, b ∈ (listB B).drop j → c.n < b.n := fun b hb => by
    obtain ⟨i, hi⟩ := List.mem_iff_getElem?.1 hb
    rw [List.getElem?_drop] at hi
    rcases hj with ⟨rfl, x, hx, hxn⟩ | ⟨rfl, hne⟩
    · have := sort_lt hs hx hi (by omega); omega
    · by_cases q : i = 0
      · subst q
        rw [Nat.add_zero] at hi
        have h1 := hge b hi
        have h2 := hne b hi
        omega
      · obtain ⟨x, hx⟩ : ∃ x, (listB B)[j]? = some x := ⟨_, List.getElem?_eq_getElem (by
          obtain ⟨w, _⟩ := List.getElem?_eq_some_iff.1 hi
          omega)⟩
        have h1 := hge x hx
        have h3 := sort_lt hs hx hi (by omega)
        omega
  refine sort_uniq ?_ (listB_sort _) fun b => ?_
  · unfold insK
    refine List.pairwise_append.2 ⟨List.pairwise_append.2 ⟨hs.sublist (List.take_sublist _ _), by split <;> simp, fun a ha b hb => ?_⟩, hs.sublist (List.drop_sublist _ _), fun a ha b hb => ?_⟩
    · split at hb
      · cases hb
      · simp only [List.mem_singleton] at hb
        subst hb; exact ht a ha
    · have h2 := hd b hb
      rcases List.mem_append.1 ha with q | q
      · have := ht a q; omega
      · split at q
        · cases q
        · simp only [List.mem_singleton] at q
          subst q; exact h2
  · rw [mem_listB]
    have hm : b ∈ insK (listB B) c k j ↔ b ∈ (listB B).take k ∨ (c.d ≠ [] ∧ b = c) ∨ b ∈ (listB B).drop j := by
      unfold insK
      rw [List.mem_append, List.mem_append, or_assoc]
      refine or_congr_right (or_congr_left ?_)
      split
      · rename_i q; simp [q]
      · rename_i q; simp [q]
    rw [hm]
    by_cases e : b.n = c.n
    · constructor
      · rintro (q | ⟨q, rfl⟩ | q)
        · have := ht b q; omega
        · exact ⟨hc, by unfold updB; rw [if_pos rfl], q⟩
        · have := hd b q; omega
      · rintro ⟨_, h2, h3⟩
        unfold updB at h2
        rw [if_pos e] at h2
        refine .inr (.inl ⟨by rw [h2]; exact h3, ?_⟩)
        cases b; cases c
        simp_all
    · have hb : b ∈ listB B ↔ b ∈ (listB B).take k ∨ b ∈ (listB B).drop j := by
        conv => lhs; rw [← List.take_append_drop k (listB B)]
        rw [List.mem_append]
        rcases hj with ⟨rfl, x, hx, hxn⟩ | ⟨rfl, _⟩
        · obtain ⟨hk, hx2⟩ := List.getElem?_eq_some_iff.1 hx
          rw [List.drop_eq_getElem_cons hk, hx2, List.mem_cons]
          refine or_congr_right ⟨fun q => q.resolve_left fun q => e (by rw [q]; exact hxn), .inr⟩
        · exact Iff.rfl
      have h4 := mem_listB (B := B) (b := b)
      constructor
      · rintro (q | ⟨_, rfl⟩ | q)
        · have := h4.1 (hb.2 (.inl q))
          exact ⟨this.1, by unfold updB; rw [if_neg e]; exact this.2.1, this.2.2⟩
        · exact absurd rfl e
        · have := h4.1 (hb.2 (.inr q))
          exact ⟨this.1, by unfold updB; rw [if_neg e]; exact this.2.1, this.2.2⟩
      · rintro ⟨h1, h2, h3⟩
        unfold updB at h2
        rw [if_neg e] at h2
        rcases hb.1 (h4.2 ⟨h1, h2, h3⟩) with q | q
        · exact .inl q
        · exact .inr (.inr q)
theorem withB_snoc {B : Int → Bytes} {l : List Blk} {i : Nat} {c : Blk} (h : l[i]? = some c) : withB B (l.take (i + 1)) = updB (withB B (l.take i)) c.n c.d := by
  unfold withB; rw [List.take_add_one, h, List.foldl_append]; rfl
theorem withB_nil (B : Int → Bytes) : withB B [] = B := rfl
theorem Ran.upd {B : Int → Bytes} (h : Ran B) {n : Int} (hn : 0 ≤ n ∧ n < 2048) (d : Bytes) : Ran (updB B n d) := fun k hk => by
  unfold updB; rw [if_neg fun e => hk (by rw [e]; exact hn)]; exact h k hk
theorem ran_nil : Ran fun _ => [] := fun _ _ => rfl
theorem okB_iff {b : Blk} : okB b = true ↔ 0 ≤ b.n ∧ b.n < 2048 ∧ b.d.length ≤ 64 := by
  simp only [okB, Bool.not_eq_true', Bool.or_eq_false_iff, decide_eq_false_iff_not]; omega
/-- lengths -/
theorem txt_fit (z : St) : (txtV z).length + (txtR z).1.length ≤ z.1.length := by
  have h1 := numR_len 58 0 z
  have h2 := cutV_len 44 ((numR 58 0 z).1.drop (numV 58 0 z).toNat, (numR 58 0 z).2)
  have h3 : ((numR 58 0 z).1.drop (numV 58 0 z).toNat).length = (numR 58 0 z).1.length - (numV 58 0 z).toNat := List.length_drop
  dsimp only at h2
  unfold txtV txtR
  split
  · simp
  · split
    · simp only [List.length_nil]; omega
    · rw [List.length_take]; omega
theorem iRJ_len (z : St) : (iR z).1.length ≤ z.1.length := by unfold iR; exact numR_len _ _ _
def sumD (l : List Blk) : Nat := (l.map fun b => b.d.length).sum
theorem sumD_app (l m : List Blk) : sumD (l ++ m) = sumD l + sumD m := by simp [sumD]
theorem bks_fit : ∀ (k : Nat) (z : St), sumD (bksV k z) + (bkSt k z).1.length ≤ z.1.length
  | 0, z => by simp [bksV_zero, sumD, bkSt_zero]
  | k + 1, z => by
    have h1 := bks_fit k z
    have h2 := txt_fit (iR (bkSt k z))
    have h3 := iRJ_len (bkSt k z)
    rw [bksV_succ, sumD_app, bkSt_succ]
    have h4 : sumD [bkV (bkSt k z)] = (txtV (iR (bkSt k z))).length := by simp [sumD, bkV]
    omega
theorem sumD_mem {l : List Blk} {b : Blk} (h : b ∈ l) : b.d.length ≤ sumD l := by
  induction l with
  | nil => cases h
  | cons a l ih =>
    have e : sumD (a :: l) = a.d.length + sumD l := by simp [sumD]
    rcases List.mem_cons.1 h with rfl | h
    · omega
    · have := ih h; omega
theorem bks_in {k : Nat} {z : St} : ∀ b ∈ bksV k z, inI b.n := fun b hb => by
  unfold bksV at hb
  obtain ⟨j, _, rfl⟩ := List.mem_map.1 hb
  exact numV_in _ _ _
theorem encB_fit {b : Blk} (h1 : inI b.n) (h2 : b.d.length ≤ 9223372036854775807) : (encB b).length ≤ 50 + b.d.length := by
  have h3 := encN_len h1
  have h4 := (itoa_len (n := (b.d.length : Int)) (by unfold inI; omega)).1
  unfold encB encT
  simp only [List.length_append, List.length_cons, List.length_nil]; omega
theorem flat_fit : ∀ {l : List Blk}, (∀ b ∈ l, inI b.n ∧ b.d.length ≤ 9223372036854775807) → (l.flatMap encB).length ≤ 50 * l.length + sumD l
  | [], _ => by simp [sumD]
  | b :: l, h => by
    have h1 := encB_fit (h b (by simp)).1 (h b (by simp)).2
    have h2 := flat_fit (l := l) fun x hx => h x (by simp [hx])
    have e : sumD (b :: l) = b.d.length + sumD l := by simp [sumD]
    rw [List.flatMap_cons, List.length_append, List.length_cons]; omega
theorem flat_take (l : List Blk) (i : Nat) : ((l.take i).flatMap encB).length ≤ (l.flatMap encB).length := by
  have := congrArg (fun l => (l.flatMap encB).length) (List.take_append_drop i l)
  simp only [List.flatMap_append, List.length_append] at this; omega
theorem flat_snoc {l : List Blk} {i : Nat} {b : Blk} (h : l[i]? = some b) : (l.take (i + 1)).flatMap encB = (l.take i).flatMap encB ++ encB b := by
  rw [List.take_add_one, h]; simp
theorem cntJ_le (s : Bs) : cntJ s ≤ 2049 := by unfold cntJ; omega
theorem raw_fit (s : Bs) : sumD (rawJ s) ≤ s.length ∧ (rawJ s).length ≤ 2049 := by
  have h1 := bks_fit (cntJ s) (numR 59 0 (s, false))
  have h2 := numR_len 59 0 (s, false)
  have h3 := cntJ_le s
  unfold rawJ
  rw [bksV_len]
  dsimp only at h2; omega
end Go.Proofs.YtfmkodmmbgibgaaGreatDoor
/- strings.Builder as things: its block (typed) and its buffer (typed). Conditions: each rule's own hypotheses. -/
namespace Go.Proofs.YtfmkodmmbgibgaaGreatDoor.M
open Go.RowKit
/-- a block of type T -/
def tblkT (T b : Nat) (cs : List Value) : Th where
  at_ := fun w F => (F = fun k => k = b) ∧ w.heap[b]? = some (.cells cs.toArray T (0, 0))
  fr := fun a ⟨e, h⟩ => ⟨e, by rw [a.blk _ (by rw [e])]; exact h⟩
  lt := fun {w F} ⟨e, h⟩ k hk => by
    rw [e] at hk; subst hk
    rcases Nat.lt_or_ge k w.heap.size with g | g
    · exact g
    · rw [Array.getElem?_eq_none g] at h; cases h
/-- a row of bytes, typed e -/
def bufT (e : Nat) (v : Value) (bs : List UInt8) : Th where
  at_ := fun w F => (F = fun k => v.ownBlock = some k) ∧ w.ownsRow 0 e 1 v bs.length (byC.cells bs) ∧ (bs = [] → v = .slice none 0 0)
  fr := fun {w w' F} a ⟨e1, ⟨hl, h⟩, hn⟩ => ⟨e1, ⟨hl, by
    rcases h with h | ⟨g, cap, cur, h1, h2, h3, h4⟩
    · exact .inl h
    · exact .inr ⟨g, cap, cur, h1, h2, by rw [a.blk _ (by rw [e1, h1]; rfl)]; exact h3, h4⟩⟩, hn⟩
  lt := fun {w F} ⟨e1, h, _⟩ k hk => by rw [e1] at hk; exact (h.lt k hk).2
/-- what a typed row is, untyped -/
theorem own_of_row {w : World} {e n : Nat} {v : Value} {xs : List Value} (h : w.ownsRow 0 e 1 v n xs) : ∃ foot, Own w v n 1 xs foot ∧ ∀ k, k ∈ foot ↔ v.ownBlock = some k := by
  obtain ⟨hl, ⟨rfl, rfl⟩ | ⟨g, cap, cur, rfl, _, hg, hc, _, hs, ht⟩⟩ := h
  · exact ⟨[], ⟨hl, .inl ⟨rfl, rfl, rfl⟩⟩, by simp [Value.ownBlock]⟩
  · have he : xs ++ cur.toList.drop (n * 1) = cur.toList := by rw [← ht]; exact List.take_append_drop _ _
    refine ⟨[g], ⟨hl, .inr ⟨g, cap, cur.toList.drop (n * 1), rfl, hc, ⟨e, 0, 0, ?_, .inl (Nat.le_refl _)⟩, ?_, rfl⟩⟩, by simp [Value.ownBlock, eq_comm]⟩
    · rw [he]; exact hg
    · rw [he]; simpa using hs
section
variable {P : Program} {n : Nat} {ops : Array Oper} {Q : Exit → Act → World → Prop} {rest : List Oper} {L : Env} {w : World} {d : Nat} {ty : TypeId} {pos : String} {aft : Array Edge} {As : List Th} {T e b : Nat} {cs : List Value}
theorem Sat.tblk (h : Sat w As) (i : Nat) (hi : As[i]? = some (tblkT T b cs)) : w.heap[b]? = some (.cells cs.toArray T (0, 0)) := by
  obtain ⟨F, _, h⟩ := h.get i hi; exact h
theorem Sat.tcell (h : Sat w As) (i : Nat) (hi : As[i]? = some (tblkT T b cs)) {o : Nat} {v : Value} (hv : cs[o]? = some v) : w.cell? ⟨b, o, none⟩ = some v := by
  rw [Lib.cell_of_heap (h.tblk i hi)]; simpa using hv
theorem Sat.tshape (h : Sat w As) (i : Nat) (hi : As[i]? = some (tblkT T b cs)) : w.shape? b = some (T, cs.length) := by
  simp [World.shape?, h.tblk i hi]
theorem Sat.buf (h : Sat w As) (i : Nat) {v : Value} {bs : List UInt8} (hi : As[i]? = some (bufT e v bs)) : w.ownsRow 0 e 1 v bs.length (byC.cells bs) ∧ (bs = [] → v = .slice none 0 0) := by
  obtain ⟨F, _, h⟩ := h.get i hi; exact h
/-- the shape of a buffer -/
theorem Sat.bufv (h : Sat w As) (i : Nat) {v : Value} {bs : List UInt8} (hi : As[i]? = some (bufT e v bs)) : ∃ ao cap, v = .slice ao bs.length cap ∧ v.oneCell' = true ∧ (ao = none ∧ bs = [] ∨ ∃ g, ao = some ⟨g, 0, none⟩ ∧ cap ≠ 0 ∧ bs ≠ []) := by
  obtain ⟨⟨_, ⟨rfl, h1⟩ | ⟨g, cap, cur, rfl, _, _, h1, _⟩⟩, hn⟩ := h.buf i hi
  · have : bs = [] := List.eq_nil_of_length_eq_zero h1
    subst this
    exact ⟨none, 0, rfl, rfl, .inl ⟨rfl, rfl⟩⟩
  · have hb : bs ≠ [] := fun e => by have := hn e; cases this
    have : 0 < bs.length := List.length_pos_iff.2 hb
    exact ⟨_, cap, rfl, rfl, .inr ⟨g, rfl, by omega, hb⟩⟩
/-- a new variable, its type kept -/
theorem wl_allocT {t : Nat} {z : Value} (hS : Sat w As) (hz : zeroOf P t = some (some z)) (hcs : z.cells.toList = cs) (hd : Nat.blt d n = true) (hk : ∀ b w', Sat w' (tblkT t b cs :: As) → wl P n ops Q rest ((d, ptrV b 0) :: L) w') : wl P n ops Q (⟨some d, .alloc t, ty, pos, aft, none⟩ :: rest) L w := by
  subst hcs
  refine wl_does rfl hd (R := fun v w' => v = ptrV w.heap.size 0 ∧ w' = w.alloc (.cells z.cells t)) (fun a ha => ⟨_, _, .inl ?_, rfl, rfl⟩) (fun v w' ⟨e1, e2⟩ => ?_)
  · simp [execOp, Instr.alloc, run_zeroOf hz, newVar, newRow]
  · subst e1 e2
    refine hk _ _ (hS.new ((Only.refl _ _).alloc _) (A := tblkT t w.heap.size z.cells.toList) (F' := fun k => k = w.heap.size) ⟨rfl, ?_⟩ (fun k hk => by rw [hk]; exact Nat.le_refl _))
    simpa using heap_alloc_new w (.cells z.cells t)
/-- a cell of a typed block is stored into -/
theorem wl_storeT {x y : Operand} {t o i : Nat} {v : Value} (hS : Sat w As) (hx : look L x = some (ptrV b o)) (hy : look L y = some v) (hs : szOf P t = some 1) (h1 : v.oneCell' = true) (hi : As[i]? = some (tblkT T b cs)) (ho : o < cs.length)
    (hk : ∀ w', Sat w' (As.set i (tblkT T b (cs.set o v))) → wl P n ops Q rest L w') : wl P n ops Q (⟨none, .store t x y, ty, pos, aft, none⟩ :: rest) L w := by
  have hb := hS.tblk i hi
  have hc := hS.tcell i hi (o := o) (List.getElem?_eq_getElem ho)
  have hf : w.frozen? ⟨b, o, none⟩ = false := Lib.frozen_of_heap hb o
  have hcs : v.cells = #[v] := by cases v <;> first | rfl | cases h1
  refine wl_does rfl rfl (R := fun _ w' => w' = w.setCell ⟨b, o, none⟩ v) (fun a ha => ⟨undef, _, .inr ⟨?_, rfl⟩, rfl⟩) (fun _ w' e => ?_)
  · have hst : (store ⟨b, o, none⟩ v).run P w = .ok () (w.setCell ⟨b, o, none⟩ v) := by
      rw [run_store P w _ v _ h1, hc]; simp [hf]
    have e0 : (⟨b, o, none⟩ : Addr).add 0 = ⟨b, o, none⟩ := by simp [Addr.add]
    simp [execOp, ha.eval hx, ha.eval hy, Instr.storeAt, Instr.sureAddr, storeVar, hcs, run_sizeOf hs, storeCells, e0, hst]
  · subst e
    refine hk _ (hS.step i hi fun F ⟨e1, _⟩ => ⟨F, ⟨e1, ?_⟩, fun k hk => .inl hk, ((Only.refl [b] w).setCell (.inl (by simp)) v).agree (fun x hx => .inl (by simp only [List.mem_singleton] at hx; subst hx; rw [e1]))⟩)
    simp [World.setCell, Array.getElem?_modify, hb]
/-- unsafe.SliceData of a buffer -/
theorem wl_sliceData {ao : Option Addr} {m cap : Nat} {ts : Array TypeId} {x : Operand} (hx : look L x = some (.slice ao m cap)) (h0 : ao = none ∨ cap ≠ 0) (hd : Nat.blt d n = true) (hk : wl P n ops Q rest ((d, .pointer ao) :: L) w) : wl P n ops Q (⟨some d, .call ⟨.builtin .unsafeSliceData, #[x], ts⟩, ty, pos, aft, none⟩ :: rest) L w := by
  refine wl_does rfl hd (R := fun v w' => v = .pointer ao ∧ w' = w) (fun a ha => ⟨_, _, .inl ?_, rfl, rfl⟩) (by rintro _ _ ⟨rfl, rfl⟩; exact hk)
  have hr : (Builtin.unsafeSliceData_ ts ty #[.slice ao m cap]).run P w = .ok (.pointer ao) w := by
    cases ao with
    | none => exact Lib.run_unsafeSliceData_nil w ts ty m cap
    | some q => exact Lib.run_unsafeSliceData_row w ts ty q m cap (by rcases h0 with h0 | h0; cases h0; exact h0)
  simp [execOp, ha.eval hx, resolve, invoke, builtin, hr]
/-- unsafe.String of a buffer: the buffer is given up -/
theorem wl_unsafeString {ao : Option Addr} {cap pt it : Nat} {bs : List UInt8} {x y : Operand} (i : Nat) (hS : Sat w As) (hi : As[i]? = some (bufT e (.slice ao bs.length cap) bs)) (hx : look L x = some (.pointer ao)) (hy : look L y = some (.int .i64 (bs.length : Int))) (hp : P.underlying pt = some (.pointer e)) (hc : P.cellsOf e = 1) (hlen : bs.length ≤ 9223372036854775807) (hd : Nat.blt d n = true)
    (hk : ∀ w', Sat w' (As.eraseIdx i) → wl P n ops Q rest ((d, strV bs) :: L) w') : wl P n ops Q (⟨some d, .call ⟨.builtin .unsafeString, #[x, y], #[pt, it]⟩, ty, pos, aft, none⟩ :: rest) L w := by
  obtain ⟨hown, hnil⟩ := hS.buf i hi
  have hg : ∃ w', (Builtin.unsafeString_ #[pt, it] ty #[.pointer ao, .int .i64 bs.length]).run P w = .ok (strV bs) w' ∧ Sat w' (As.eraseIdx i) := by
    by_cases h0 : bs = []
    · subst h0
      have hv := hnil rfl
      simp only [Value.slice.injEq, List.length_nil, true_and] at hv
      obtain ⟨rfl, _⟩ := hv
      exact ⟨w, Lib.run_unsafeString_none w pt it ty none, hS.drop i hi⟩
    · obtain ⟨_, ⟨hv, h1⟩ | ⟨g, cap', cur, hv, _, hgb, h1, _, h2, h3⟩⟩ := hown
      · exact absurd (List.eq_nil_of_length_eq_zero h1) h0
      · simp only [Value.slice.injEq, true_and] at hv
        obtain ⟨rfl, rfl⟩ := hv
        refine ⟨w.freeze ⟨g, 0, none⟩ bs.length, Lib.run_unsafeString_row w pt it ty e hp hc g cur.size (by simp [World.shape?, hgb]) bs h0 (by omega) hlen ?_, ?_⟩
        · intro j c hj
          rw [addr_add]
          simp only [Nat.zero_add]
          rw [Lib.cell_of_heap hgb]
          have hj' := (List.getElem?_eq_some_iff.1 hj).1
          have : (byC.cells bs)[j]? = some (.int .u8 (c.toNat : Int)) := by
            have := RowC.cells_at (C := byC) (l := bs) (j := j) hj
            have h3 := congrArg (fun q => q[0]?) this
            simpa [byC, List.getElem?_take, List.getElem?_drop] using h3
          rw [← h3, List.getElem?_take] at this
          split at this
          · simpa using this
          · cases this
        · have hp1 := hS.pull i hi
          obtain ⟨F, F1, F2, rfl, dj, ⟨e1, _⟩, h2'⟩ := hp1
          refine ⟨F2, (starL _).fr (F := F2) ?_ h2'⟩
          have hb := Lib.below_freeze (B := 0) (Below.refl 0 w) (p := ⟨g, 0, none⟩) (Nat.zero_le _) bs.length
          refine ⟨hb.os, hb.tape, hb.output, fun k hk' => ?_⟩
          have hne : k ≠ g := by
            rintro rfl
            exact dj k (by rw [e1]; rfl) hk'
          unfold World.freeze
          split
          · rfl
          · simp only [Array.getElem?_modify]
            rw [if_neg (fun q => hne q.symm)]
  obtain ⟨w', h1, h2⟩ := hg
  refine wl_does rfl hd (R := fun v u => v = strV bs ∧ u = w') (fun a ha => ⟨_, _, .inl ?_, rfl, rfl⟩) (by rintro _ _ ⟨rfl, rfl⟩; exact hk _ h2)
  simp [execOp, ha.eval hx, ha.eval hy, resolve, invoke, builtin, h1]
/-- a pointer to an unsafe one, and back -/
theorem wl_toUnsafe {src dst t o : Nat} {x : Operand} {j : TypeInfo} {S : Nat × Nat} (hx : look L x = some (ptrV b o)) (hs : P.underlying src = some (.pointer t)) (hd' : P.underlying dst = some .unsafePointer) (ht : P.info? t = some j) (hj : j.size ≠ 0) (hsh : w.shape? b = some S) (ho : o < S.2) (hd : Nat.blt d n = true) (hk : wl P n ops Q rest ((d, ptrV b o) :: L) w) : wl P n ops Q (⟨some d, .convert src dst x, ty, pos, aft, none⟩ :: rest) L w :=
  wl_val hd (fun ρ hρ => by
    have := Lib.run_to_unsafe (P := P) (w := w) (e := S.1) (cells := S.2) (⟨b, o, none⟩ : Addr) hs hd' ht hj hsh ho
    simp [execOp, hρ _ _ hx, ptrV, this]) hk
theorem wl_fromUnsafe {src dst u o : Nat} {x : Operand} {j : TypeInfo} {S : Nat × Nat} (hx : look L x = some (ptrV b o)) (hs : P.underlying src = some .unsafePointer) (hd' : P.underlying dst = some (.pointer u)) (hu : P.info? u = some j) (hsh : w.shape? b = some S) (hl : liesAt P P.depth S.1 (S.2 / P.cellsOf S.1) o u 1 = true) (hd : Nat.blt d n = true) (hk : wl P n ops Q rest ((d, ptrV b o) :: L) w) : wl P n ops Q (⟨some d, .convert src dst x, ty, pos, aft, none⟩ :: rest) L w :=
  wl_val hd (fun ρ hρ => by
    have := Lib.run_from_unsafe (P := P) (w := w) (e := S.1) (cells := S.2) (⟨b, o, none⟩ : Addr) hs hd' hu hsh hl
    simp [execOp, hρ _ _ hx, ptrV, this]) hk
/-- p != p -/
theorem wl_neqPtrSame {x y : Operand} {t t2 u : TypeId} {q : Addr} {j : TypeInfo} (hu : P.underlying t = some (.pointer u)) (hj : P.info? u = some j) (hx : look L x = some (.pointer (some q))) (hy : look L y = some (.pointer (some q))) (hd : Nat.blt d n = true) (hk : wl P n ops Q rest ((d, .bool false) :: L) w) : wl P n ops Q (⟨some d, .binOp .neq t x y t2, ty, pos, aft, none⟩ :: rest) L w :=
  wl_val hd (fun ρ hρ => by
    have h : (Op.equal t (.pointer (some q)) (.pointer (some q))).run P w = .ok true w := by
      unfold Op.equal Op.maxDepth Op.equalIn
      simp [run_underlying hu, sizeOf, typeInfo, hj, run_sameAddr_same]
    simp [execOp, hρ _ _ hx, hρ _ _ hy, eqGuard, binOp, h]) hk
/-- a function without a body that gives its argument back -/
theorem wl_extSame {f : Nat} {fn : Func} {x : Operand} {ts : Array TypeId} {v : Value} (hf : P.funcs[f]? = some fn) (hname : (fn.name == "runtime.NumGoroutine") = false) (hb : fn.body.isNone = true) (hn : Extern.findNext fn = none) (he : Extern.find fn = some Extern.AbiNoEscape.same)
    (hx : look L x = some v) (hd : Nat.blt d n = true) (hk : wl P n ops Q rest ((d, v) :: L) w) : wl P n ops Q (⟨some d, .call ⟨.value (.func f), #[x], ts⟩, ty, pos, aft, none⟩ :: rest) L w := by
  refine wl_does rfl hd (R := fun u w' => u = v ∧ w' = w) (fun a ha => ⟨_, _, .inl ?_, rfl, rfl⟩) (by rintro _ _ ⟨rfl, rfl⟩; exact hk)
  have hr : (Extern.AbiNoEscape.same #[v]).run P w = .ok v w := rfl
  have hc := run_callFunc_extern hf hname hb hn he #[v] w
  rw [hr] at hc
  simp only [execOp, resolve, Act.eval, Deferred.ofValue, invoke]
  have hxe := ha.eval hx
  simp
  rw [hxe, hc]; rfl
end
end Go.Proofs.YtfmkodmmbgibgaaGreatDoor.M
/- Appending a string's bytes to a builder's buffer. Conditions: each lemma's own hypotheses. -/
namespace Go.Proofs.YtfmkodmmbgibgaaGreatDoor
open Go.RowKit M
section
variable {P : Program} {n : Nat} {ops : Array Oper} {Q : Exit → Act → World → Prop} {rest : List Oper} {L : Env} {w : World} {d : Nat} {ty : TypeId} {pos : String} {aft : Array Edge} {As : List Th} {T e b : Nat} {cs : List Value}
theorem strCells_eq (l : List UInt8) : Lib.strCells ⟨l.toArray⟩ = byC.cells l := by
  rw [byC_cells]
  simp [Lib.strCells, bytesV]
theorem wl_bufAppS {t t2 : TypeId} {s x : Operand} {v : Value} {bs l2 : List UInt8} (i : Nat) (hS : Sat w As) (hi : As[i]? = some (bufT e v bs)) (hs : M.look L s = some v) (hx : M.look L x = some (strV l2)) (hu : P.underlying t = some (.slice e)) (hu2 : P.underlying t2 = some .string)
    (hif : (P.info? e).map (fun i => (i.zero, i.size, i.bytes)) = some (some (.int .u8 0), 1, 1)) (hm : bs.length + l2.length ≤ 140737488355328) (hd : Nat.blt d n = true)
    (hk : ∀ v' w', Sat w' (As.set i (bufT e v' (bs ++ l2))) → wl P n ops Q rest ((d, v') :: L) w') : wl P n ops Q (⟨some d, .call ⟨.builtin .append, #[s, x], #[t, t2]⟩, ty, pos, aft, none⟩ :: rest) L w := by
  obtain ⟨hown, hnil⟩ := hS.buf i hi
  obtain ⟨foot, hO, hfoot⟩ := own_of_row hown
  obtain ⟨inf, hi1, hi2, hi3, hi4⟩ := info_parts hif
  have hsz : (⟨l2.toArray⟩ : ByteArray).size = l2.length := by simp [ByteArray.size]
  refine wl_does rfl hd (R := fun v w' => Sat w' (As.set i (bufT e v (bs ++ l2)))) (fun a ha => ?_) (fun v w' hR => hk v w' hR)
  obtain ⟨v1, w1, hrun, foot', o1, o2, o3, _⟩ := does_append (P := P) (o := ⟨some d, .call ⟨.builtin .append, #[s, x], #[t, t2]⟩, ty, pos, aft, none⟩) (a := a) t t2 s x rfl (ha.eval hs) (ha.eval hx) hO hu hu2 (by intro k hk; cases hk) hif rfl (by decide) (m := l2.length) (news := byC.cells l2)
    (fun w1 => by simp [strV, Builtin.lenOf, hsz]) (fun w1 _ => by have := Lib.run_firstCells_string (P := P) w1 1 ⟨l2.toArray⟩; rw [hsz, strCells_eq] at this; exact this) (byC.cells_len l2) (allOne_spec (byC.cells_one l2)) (by omega) (by omega)
  obtain ⟨v2, w2, hr2, hown2, _, hiff⟩ := Lib.run_append_own_string (P := P) w 0 t t2 ty e inf hu hu2 hi1 hi2 hi3 hi4 v bs.length (byC.cells bs) hown ⟨l2.toArray⟩ (by rw [hsz]; unfold maxLen; omega) (by rw [hsz]; omega) (Nat.zero_le _)
  rw [hsz] at hown2 hiff
  have hex : (execOp a.eval ⟨some d, .call ⟨.builtin .append, #[s, x], #[t, t2]⟩, ty, pos, aft, none⟩).run P w = .ok (.value v2) w2 := by
    have hr3 : (Builtin.append_ #[t, t2] ty #[v, strV l2]).run P w = .ok v2 w2 := hr2
    simp [execOp, ha.eval hs, ha.eval hx, resolve, invoke, builtin, hr3]
  have heq : v1 = v2 ∧ w1 = w2 := by
    rcases hrun with h | ⟨h, _⟩
    · rw [hex] at h; cases h; exact ⟨rfl, rfl⟩
    · rw [hex] at h; cases h
  obtain ⟨rfl, rfl⟩ := heq
  refine ⟨v1, w1, .inl hex, ?_⟩
  have hfoot' : ∀ k, v1.ownBlock = some k → k ∈ foot' := by
    intro k hk'
    obtain ⟨_, ⟨e1, _, _⟩ | ⟨b1, c1, s1, e1, _, _, _, rfl⟩⟩ := o1
    · rw [e1] at hk'; cases hk'
    · rw [e1] at hk'; simp [Value.ownBlock] at hk'; simp [hk']
  refine hS.step i hi fun F ⟨eF, _⟩ => ⟨fun k => v1.ownBlock = some k, ⟨rfl, ?_, fun q => ?_⟩, fun k hk' => ?_, o2.agree fun k hk' => ?_⟩
  · rw [List.length_append, ← RowC.cells_app, ← strCells_eq l2]; exact hown2
  · obtain ⟨q1, q2⟩ := List.append_eq_nil_iff.1 q
    exact hiff.2 ⟨hnil q1, by rw [q2]; rfl⟩
  · rcases o3 k (hfoot' k hk') with q | q
    · exact .inl (by rw [eF]; exact (hfoot k).1 q)
    · exact .inr q
  · exact .inl (by rw [eF]; exact (hfoot k).1 hk')
end
end Go.Proofs.YtfmkodmmbgibgaaGreatDoor
/- strings.Builder: its methods -/
namespace Go.Proofs.YtfmkodmmbgibgaaGreatDoor
open Go.RowKit M
set_option linter.unusedVariables false
theorem ne1 : (Tryz.f129.name == "runtime.NumGoroutine") = false := by kernel_rfl
theorem ne2 : Tryz.f129.body.isNone = true := by kernel_rfl
theorem ne3 : Extern.findNext Tryz.f129 = none := by kernel_rfl
theorem ne4 : Extern.find Tryz.f129 = some Extern.AbiNoEscape.same := by kernel_rfl
theorem bl_info : (Tryz.prog.info? 120).map (fun j => decide (j.size ≠ 0)) = some true := by kernel_rfl
theorem bl_lies : liesAt Tryz.prog Tryz.prog.depth 120 (2 / Tryz.prog.cellsOf 120) 0 120 1 = true := by kernel_rfl
theorem bl_byte : Tryz.prog.cellsOf 5 = 1 := by kernel_rfl
theorem bl_some : ∃ j, Tryz.prog.info? 120 = some j ∧ j.size ≠ 0 := by
  have h := bl_info
  cases hq : Tryz.prog.info? 120 with
  | none => rw [hq] at h; cases h
  | some j => rw [hq] at h; exact ⟨j, rfl, by simpa using h⟩
theorem bl_check0 {w : World} {b : Nat} {v : Value} {F : Th} (hS : Sat w [tblkT 120 b [.pointer none, v], F]) :
    Calls Tryz.prog 113 #[ptrV b 0] w (Ret fun u_ w' => u_ = .tuple #[] ∧ Sat w' [tblkT 120 b [ptrV b 0, v], F]) := by
 obtain ⟨j, hj, hj0⟩ := bl_some
 refine calls_enter Tryz.func113 rfl Tryz.ntmps113 rfl ?_
 refine wc_seq (wc_region (wl_move rfl rfl (wl_nilCheck rfl rfl ?_)))
 refine wl_fieldAddr rfl fo_120_0 rfl ?_
 refine wl_load rfl ag_117 (hS.tcell 0 rfl (o := 0) rfl) rfl ?_
 refine wl_eqlNilNil Tryz.underlying117 rfl rfl rfl ?_
 refine wl_nil (qs_seq ?_)
 refine wc_condT rfl ?_
 refine wc_region (wl_move rfl rfl (wl_move rfl rfl ?_))
 refine wl_toUnsafe rfl Tryz.underlying117 Tryz.underlying158 hj hj0 (hS.tshape 0 rfl) (by simp) rfl ?_
 refine wl_extSame Tryz.func129 ne1 ne2 ne3 ne4 rfl rfl ?_
 refine wl_fromUnsafe rfl Tryz.underlying158 Tryz.underlying117 hj (hS.tshape 0 rfl) bl_lies rfl ?_
 refine wl_nilCheck rfl rfl ?_
 refine wl_fieldAddr rfl fo_120_0 rfl ?_
 refine wl_storeT hS rfl rfl sz_117 (by first | rfl | assumption) (i := 0) rfl (by simp) ?_
 intro w1 hS1; dsimp only [List.set] at hS1
 refine wl_nil ?_
 refine fin0 (.inl rfl) rfl ?_
 exact ⟨_, rfl, rfl, hS1⟩
theorem bl_check1 {w : World} {b : Nat} {v : Value} {F : Th} (hS : Sat w [tblkT 120 b [ptrV b 0, v], F]) :
    Calls Tryz.prog 113 #[ptrV b 0] w (Ret fun u_ w' => u_ = .tuple #[] ∧ Sat w' [tblkT 120 b [ptrV b 0, v], F]) := by
 obtain ⟨j, hj, hj0⟩ := bl_some
 refine calls_enter Tryz.func113 rfl Tryz.ntmps113 rfl ?_
 refine wc_seq (wc_region (wl_move rfl rfl (wl_nilCheck rfl rfl ?_)))
 refine wl_fieldAddr rfl fo_120_0 rfl ?_
 refine wl_load rfl ag_117 (hS.tcell 0 rfl (o := 0) rfl) rfl ?_
 refine wl_eqlNil Tryz.underlying117 rfl rfl rfl ?_
 refine wl_nil (qs_seq ?_)
 refine wc_condF rfl ?_
 refine wc_seq (wc_region (wl_move rfl rfl (wl_nilCheck rfl rfl ?_)))
 refine wl_fieldAddr rfl fo_120_0 rfl ?_
 refine wl_load rfl ag_117 (hS.tcell 0 rfl (o := 0) rfl) rfl ?_
 refine wl_move rfl rfl ?_
 refine wl_neqPtrSame Tryz.underlying117 hj rfl rfl rfl ?_
 refine wl_nil (qs_seq ?_)
 refine wc_sub (L' := [(19, _)]) (.cons rfl .nil) ?_
 refine wc_condF rfl ?_
 refine wc_skip ?_
 refine fin0 (.inl rfl) rfl ?_
 exact ⟨_, rfl, rfl, hS⟩
def bldT (b : Nat) (bs : Bs) : Th := exT fun q : Value × Value => starL [pureT (q.1 = .pointer none ∨ q.1 = ptrV b 0), tblkT 120 b [q.1, q.2], bufT 5 q.2 bs]
theorem bldT_open {w : World} {b : Nat} {bs : Bs} {As : List Th} (h : Sat w (bldT b bs :: As)) : ∃ p v, (p = .pointer none ∨ p = ptrV b 0) ∧ Sat w (tblkT 120 b [p, v] :: bufT 5 v bs :: As) := by
  obtain ⟨⟨p, v⟩, h⟩ := h.ex
  obtain ⟨h1, h2⟩ := h.flat.pure_elim
  exact ⟨p, v, h1, h2⟩
theorem bldT_shut {w : World} {b : Nat} {bs : Bs} {As : List Th} {p v : Value} (hp : p = .pointer none ∨ p = ptrV b 0) (h : Sat w (tblkT 120 b [p, v] :: bufT 5 v bs :: As)) : Sat w (bldT b bs :: As) :=
  Sat.ex_intro (p, v) (Sat.fold (As := [pureT _, tblkT 120 b [p, v], bufT 5 v bs]) (Sat.pure_intro hp h))
theorem bl_check {w : World} {b : Nat} {p v : Value} {F : Th} (hp : p = .pointer none ∨ p = ptrV b 0) (hS : Sat w [tblkT 120 b [p, v], F]) : Calls Tryz.prog 113 #[ptrV b 0] w (Ret fun u w' => u = .tuple #[] ∧ Sat w' [tblkT 120 b [ptrV b 0, v], F]) := by
  rcases hp with rfl | rfl
  · exact bl_check0 hS
  · exact bl_check1 hS
theorem bufT_nil {w : World} {As : List Th} {e : Nat} (h : Sat w As) : Sat w (bufT e (.slice none 0 0) [] :: As) :=
  h.new (Only.refl [] w) (A := bufT e (.slice none 0 0) []) (F' := fun k => Value.ownBlock (.slice none 0 0) = some k) ⟨rfl, World.ownsRow_nil w 0 e 1, fun _ => rfl⟩ (by simp [Value.ownBlock])
theorem bl_writeString {w : World} {b : Nat} {bs : Bs} {F : Th} (hS : Sat w [bldT b bs, F]) (s : Bs) (hl : bs.length + s.length ≤ 70368744177663) :
    Calls Tryz.prog 84 #[ptrV b 0, strV s] w (Ret fun v w' => v = .tuple #[intV (s.length : Int), .nilIface] ∧ Sat w' [bldT b (bs ++ s), F]) := by
 obtain ⟨p, v, hp, hS⟩ := bldT_open hS
 refine calls_enter Tryz.func84 rfl Tryz.ntmps84 rfl ?_
 refine wc_seq (wc_region (wl_assign rfl rfl (wl_assign rfl rfl (wl_nil (qs_seq (wc_seq (wc_region (wl_move rfl rfl ?_))))))))
 have hC1 := hS.split [0] [true, false, false] rfl; dsimp only [selF, pickA, nthA, List.cons_append, List.nil_append] at hC1
 refine wl_call cal_113 rfl (bl_check hp hC1) rfl ?_
 rintro e w1 ⟨_, rfl, rfl, hS1⟩; refine ⟨_, rfl, ?_⟩
 replace hS1 := hS1.join rfl; dsimp only [List.dropLast, List.cons_append, List.nil_append] at hS1; clear hC1
 refine wl_nil (qs_seq (wc_seq (wc_region (wl_move rfl rfl (wl_move rfl rfl (wl_nilCheck rfl rfl ?_))))))
 refine wl_fieldAddr rfl fo_120_1 rfl ?_
 refine wl_load rfl ag_118 (hS1.tcell 0 rfl (o := 1) rfl) rfl ?_
 refine wl_move rfl rfl ?_
 refine wl_bufAppS 1 hS1 rfl rfl rfl Tryz.underlying118 Tryz.underlying9 ifo_5 (by omega) rfl ?_
 intro v2 w2 hS2; dsimp only [List.set] at hS2
 clear hS1
 obtain ⟨_, _, _, h1v2, _⟩ := hS2.bufv 1 rfl
 refine wl_nilCheck rfl rfl ?_
 refine wl_fieldAddr rfl fo_120_1 rfl ?_
 refine wl_storeT hS2 rfl rfl sz_118 (by first | rfl | assumption) (i := 0) rfl (by simp) ?_
 intro w3 hS3; dsimp only [List.set] at hS3
 clear hS2
 refine wl_nil (qs_seq ?_)
 refine wc_sub (L' := [(5, _), (4, _), (1, _)]) (.cons rfl (.cons rfl (.cons rfl .nil))) ?_
 refine wc_seq (wc_region (wl_move rfl rfl ?_))
 refine wl_lenS Tryz.underlying9 rfl rfl ?_
 refine wl_assign rfl rfl (wl_assign rfl rfl (wl_nil (qs_seq (wc_ret ?_))))
 refine fin2 (.inr rfl) rfl rfl rfl ?_
 exact ⟨_, rfl, rfl, bldT_shut (.inr rfl) (hS3.pick [0, 1, 2] rfl)⟩
theorem bl_string {w : World} {b : Nat} {bs : Bs} {F : Th} (hS : Sat w [bldT b bs, F]) (hl : bs.length ≤ 70368744177663) :
    Calls Tryz.prog 87 #[ptrV b 0] w (Ret fun v w' => v = strV bs ∧ Sat w' [F]) := by
 obtain ⟨p, v, hp, hS⟩ := bldT_open hS
 obtain ⟨ao, cap, rfl, h1v, hq⟩ := hS.bufv 1 rfl
 have hao : ao = none ∨ cap ≠ 0 := by rcases hq with ⟨h, _⟩ | ⟨_, _, h, _⟩; exact .inl h; exact .inr h
 refine calls_enter Tryz.func87 rfl Tryz.ntmps87 rfl ?_
 refine wc_seq (wc_region (wl_assign rfl rfl (wl_nil (qs_seq (wc_seq ?_)))))
 have hS1 := hS.drew
 refine wc_draw [0, 1, 2, 3, 5, 6, 7, 8, 9, 4, 10, 11] [4, 10] mix (by kernel_rfl) ?_
 refine vc_p rfl rfl rfl (fun _ => (ev_move rfl)) ?_
 refine vc_p rfl rfl rfl (fun _ => (ev_nilCheck rfl)) ?_
 refine vc_p rfl rfl rfl (fun _ => (ev_fieldAddr rfl fo_120_1)) ?_
 refine vc_q rfl rfl rfl (ev_load rfl ag_118 (hS1.tcell 0 rfl (o := 1) rfl)) ?_
 refine vc_p rfl rfl rfl (fun _ => (ev_move rfl)) ?_
 refine vc_p rfl rfl rfl (fun _ => (ev_nilCheck rfl)) ?_
 refine vc_p rfl rfl rfl (fun _ => (ev_fieldAddr rfl fo_120_1)) ?_
 refine vc_q rfl rfl rfl (ev_load rfl ag_118 (hS1.tcell 0 rfl (o := 1) rfl)) ?_
 refine vc_p rfl rfl rfl (fun _ => (ev_lenL Tryz.underlying118 rfl)) ?_
 refine vc_s rfl rfl rfl rfl rfl rfl ?_
 refine wl_sliceData rfl hao rfl ?_
 refine vc_e (.cons (.inl ⟨rfl, (ev_load rfl ag_118 (hS1.tcell 0 rfl (o := 1) rfl))⟩) (.skip (by kernel_rfl) .nil)) ?_
 refine vc_s rfl rfl rfl rfl rfl rfl ?_
 refine wl_unsafeString 1 hS1 rfl rfl rfl Tryz.underlying146 bl_byte (by omega) rfl ?_
 intro w2 hS2; dsimp only [List.eraseIdx] at hS2
 clear hS1
 refine vc_e (.skip (by kernel_rfl) (.skip (by kernel_rfl) .nil)) ?_
 refine vc_p rfl rfl rfl (fun _ => (ev_assign rfl)) ?_
 refine VC.nil (qs_seq ?_)
 refine wc_sub (L' := [(2, _)]) (.cons rfl .nil) ?_
 refine wc_ret ?_
 refine fin1 (.inr rfl) rfl rfl ?_
 exact ⟨_, rfl, rfl, hS2.tail⟩
end Go.Proofs.YtfmkodmmbgibgaaGreatDoor
