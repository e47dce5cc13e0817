/- The references 01 (numbers as text) and 15 (cells in order), in plain data; rules for strings in order and for division of numbers that are not positive. Conditions: each lemma's own hypotheses. -/
import Derived.Test.YtkaikhcpcbjkcaaGreatDoorRow
import Derived.Sort.Walk0
import Derived.Shelf.Small.Bits
import Derived.Shelf.Small.Strs
import Derived.Shelf.Strconv.Atoi
import Derived.Shelf.Strconv.Itoa0
import Derived.Shelf.Strconv.Itoa1
import Derived.Shelf.LaysM
import Derived.Shelf.Strconv.Itoa2
import Derived.Shelf.Strconv.Itoa3
import Derived.Shelf.Strconv.AtoiErrFast
import Derived.Shelf.Strconv.ParseIntEmpty
import Derived.Shelf.Strconv.AtoiFail
import Derived.Shelf.Strconv.Clone
import Derived.Shelf.Strconv.SyntaxError
import Derived.Shelf.LaysC
import Derived.Shelf.Strconv.ToError
import Derived.Shelf.Strconv.AtoiErr
import Derived.Shelf.Strconv.ErrVar
import Derived.Shelf.Strconv.Lower
import Derived.Shelf.Strconv.ParseUint10
import Derived.Shelf.Strconv.ParseUint10Empty
import Derived.Shelf.Strconv.ParseUint10Any
import Derived.Shelf.Strconv.ParseInt10
import Derived.Shelf.Strconv.AtoiLong
import Derived.Shelf.Strconv.AtoiInnerAll
import Derived.Shelf.Strconv.RangeError
import Derived.Shelf.Strconv.ToErrorRange
import Derived.Shelf.Strconv.AtoiAll
import Derived.Shelf.Strconv.ErrVarAll
import Derived.Shelf.Strconv.ParseUintEmpty
import Derived.Shelf.Strconv.ParseUint10b64
import Derived.Shelf.Strconv.ParseUint10b32
import Derived.Shelf.Strconv.ParseUint10b16
import Derived.Shelf.Strconv.ParseUint10b8
import Derived.Shelf.Strconv.ParseUint10At
import Derived.Shelf.Strconv.ParseInt10At64
import Derived.Shelf.Strconv.ParseInt10At32
import Derived.Shelf.Strconv.ParseInt10At16
import Derived.Shelf.Strconv.ParseInt10At8
import Derived.Shelf.Strconv.ParseInt10All
import Derived.Shelf.Strings.Search1
import Derived.Shelf.Strings.Search2
import Derived.Shelf.Strings.Search3
import Derived.Shelf.Strings.Shaped
import Derived.Shelf.Sort.Plain
import Derived.Shelf.Strings.Prefix
import Derived.Shelf.Unicode.Decode
import Derived.Shelf.Unicode.DecodeSlow
import Derived.Shelf.Unicode.DecodeAny
import Derived.Shelf.Slices.In.SortNone
import Derived.Test.YtkaikhcpcbjkcaaGreatDoorProg
namespace Go.Proofs.YtkaikhcpcbjkcaaGreatDoor
open Go.RowKit M
section
variable {P : Program} {n : Nat} {ops : Array Oper} {Q : Exit → Act → World → Prop} {rest : List Oper} {L : Env} {w : World} {d : Nat} {ty : TypeId} {pos : String} {aft : Array Edge} {x y : Operand} {t t2 : TypeId}
theorem wl_quoN {a b : Int} (hx : M.look L x = some (.int .i64 a)) (hy : M.look L y = some (.int .i64 b)) (h0 : a ≤ 0) (hb : 0 < b) (ha : -9223372036854775808 ≤ a) (hd : Nat.blt d n = true) (hk : wl P n ops Q rest ((d, .int .i64 (-(-a / b))) :: L) w) : wl P n ops Q (⟨some d, .binOp .quo t x y t2, ty, pos, aft, none⟩ :: rest) L w :=
  wl_val hd (fun ρ hρ => by
    have hb' : b ≠ 0 := by omega
    have h3 : 0 ≤ -a / b := Int.ediv_nonneg (by omega) (by omega)
    have h4 : -a / b ≤ -a := Int.ediv_le_self b (by omega)
    have h5 : a.tdiv b = -(-a / b) := by
      have h7 : (-a).tdiv b = -(a.tdiv b) := Int.neg_tdiv a b
      rw [Int.tdiv_eq_ediv_of_nonneg (show 0 ≤ -a by omega)] at h7
      generalize a.tdiv b = q at h7 ⊢
      generalize -a / b = q2 at h7 ⊢
      omega
    have e : IntKind.i64.wrap (a.tdiv b) = -(-a / b) := by rw [h5]; exact wrap64 (by omega) (by omega)
    simp [execOp, hρ _ _ hx, hρ _ _ hy, eqGuard, binOp, Op.intDiv, hb', e]) hk
theorem wl_remN {a b : Int} (hx : M.look L x = some (.int .i64 a)) (hy : M.look L y = some (.int .i64 b)) (h0 : a ≤ 0) (hb : 0 < b) (hd : Nat.blt d n = true) (hk : wl P n ops Q rest ((d, .int .i64 (-(-a % b))) :: L) w) : wl P n ops Q (⟨some d, .binOp .rem t x y t2, ty, pos, aft, none⟩ :: rest) L w :=
  wl_val hd (fun ρ hρ => by
    have hb' : b ≠ 0 := by omega
    have e : a.tmod b = -(-a % b) := by
      have h7 : (-a).tmod b = -(a.tmod b) := Int.neg_tmod a b
      rw [Int.tmod_eq_emod_of_nonneg (show 0 ≤ -a by omega)] at h7
      generalize a.tmod b = q at h7 ⊢
      generalize -a % b = q2 at h7 ⊢
      omega
    simp [execOp, hρ _ _ hx, hρ _ _ hy, eqGuard, binOp, Op.intDiv, hb', e]) hk
theorem wl_negW {a : Int} (hx : M.look L x = some (.int .i64 a)) (hd : Nat.blt d n = true) (hk : wl P n ops Q rest ((d, .int .i64 (IntKind.i64.wrap (-a))) :: L) w) : wl P n ops Q (⟨some d, .unOp .neg t x, ty, pos, aft, none⟩ :: rest) L w :=
  wl_val hd (fun ρ hρ => by simp [execOp, hρ _ _ hx, Op.unary, Op.intArith]) hk
theorem ev_gtrS {s u : Bs} (hx : M.look L x = some (strV s)) (hy : M.look L y = some (strV u)) : Ev P L w ⟨some d, .binOp .gtr t x y t2, ty, pos, aft, none⟩ (.bool (decide (u < s))) := fun ρ hρ => by
  have e : (!(decide (s < u) || (s == u))) = decide (u < s) := by
    rw [Bool.eq_iff_iff]
    simp only [Bool.not_eq_true', Bool.or_eq_false_iff, decide_eq_false_iff_not, beq_eq_false_iff_ne, decide_eq_true_eq]
    constructor
    · rintro ⟨h1, h2⟩
      exact Decidable.byContradiction fun q => h2 (List.le_antisymm (List.not_lt.1 q) (List.not_lt.1 h1))
    · intro h
      exact ⟨fun q => List.lt_irrefl _ (List.lt_trans h q), fun q => by subst q; exact List.lt_irrefl _ h⟩
  simp [execOp, hρ _ _ hx, hρ _ _ hy, eqGuard, binOp, Op.stringOp, toList_mk, bytesLess_eq]
  simpa using e
theorem wl_gtrS {s u : Bs} (hx : M.look L x = some (strV s)) (hy : M.look L y = some (strV u)) (hd : Nat.blt d n = true) (hk : wl P n ops Q rest ((d, .bool (decide (u < s))) :: L) w) : wl P n ops Q (⟨some d, .binOp .gtr t x y t2, ty, pos, aft, none⟩ :: rest) L w := wl_val hd (ev_gtrS hx hy) hk
end
/-! ### numbers back from text, as the reference does it -/
theorem wrap_in (a : Int) : inI (IntKind.i64.wrap a) := by
  have h : IntKind.i64.wrap a = (a + 9223372036854775808) % 18446744073709551616 - 9223372036854775808 := by
    simp [IntKind.wrap, IntKind.signed, IntKind.bits]; split <;> omega
  rw [h]; unfold inI; omega
def backS (n : Int) (l : Bs) : Int := l.foldl (fun n (c : UInt8) => IntKind.i64.wrap (IntKind.i64.wrap (10 * n) - ((c.toNat : Int) - 48))) n
theorem backS_in (l : Bs) : inI (backS 0 l) := by
  rcases List.eq_nil_or_concat l with rfl | ⟨r, c, rfl⟩
  · unfold backS inI; simp
  · unfold backS; rw [List.concat_eq_append, List.foldl_append]; exact wrap_in _
theorem backS_snoc (l : Bs) (c : UInt8) : backS 0 (l ++ [c]) = IntKind.i64.wrap (IntKind.i64.wrap (10 * backS 0 l) - ((c.toNat : Int) - 48)) := by
  simp [backS, List.foldl_append]
theorem back_digits (u : Nat) (h : u ≤ 9223372036854775808) : backS 0 (Lib.decDigits u) = -(u : Int) := by
  induction u using Nat.strongRecOn with
  | _ u ih =>
    rw [Lib.decDigits]
    split
    · rename_i hu
      have e : (UInt8.ofNat (48 + u)).toNat = 48 + u := by simp; omega
      simp only [backS, List.foldl_cons, List.foldl_nil, e]
      rw [wrap64 (a := 10 * 0) (by omega) (by omega), wrap64 (by omega) (by omega)]; omega
    · rename_i hu
      have e : (UInt8.ofNat (48 + u % 10)).toNat = 48 + u % 10 := by simp; omega
      rw [backS_snoc, ih (u / 10) (by omega) (by omega), e, wrap64 (a := 10 * -((u / 10 : Nat) : Int)) (by omega) (by omega), wrap64 (by omega) (by omega)]
      omega
def fromB (s : Bs) : Nat := if s[0]? = some 45 then 1 else 0
def backV (s : Bs) : Int := if fromB s = 0 then IntKind.i64.wrap (-(backS 0 s)) else backS 0 (s.drop 1)
theorem fromB_itoa {n : Int} : fromB (Lib.itoa n) = if n < 0 then 1 else 0 := by
  by_cases hn : n < 0
  · obtain ⟨u, rfl⟩ : ∃ u : Nat, n = -(u : Int) := ⟨n.natAbs, by omega⟩
    rw [Lib.itoa_neg u (by omega), if_pos hn]; rfl
  · obtain ⟨u, rfl⟩ : ∃ u : Nat, n = u := ⟨n.toNat, by omega⟩
    rw [Lib.itoa_nonneg, if_neg hn]
    unfold fromB
    rw [if_neg]
    intro h
    have := decDigits_digit u 45 (List.mem_of_getElem? h)
    simp at this
theorem backV_itoa {n : Int} (h : inI n) : backV (Lib.itoa n) = n := by
  unfold backV
  rw [fromB_itoa]
  unfold inI at h
  by_cases hn : n < 0
  · rw [if_pos hn, if_neg (by omega)]
    obtain ⟨u, rfl⟩ : ∃ u : Nat, n = -(u : Int) := ⟨n.natAbs, by omega⟩
    rw [Lib.itoa_neg u (by omega), List.drop_succ_cons, List.drop_zero, back_digits u (by omega)]
  · rw [if_neg hn, if_pos rfl]
    obtain ⟨u, rfl⟩ : ∃ u : Nat, n = u := ⟨n.toNat, by omega⟩
    rw [Lib.itoa_nonneg, back_digits u (by omega), wrap64 (by omega) (by omega)]; omega
theorem backV_in (s : Bs) : inI (backV s) := by
  unfold backV; split
  · exact wrap_in _
  · exact backS_in _
/-- from where on the digits stand -/
theorem itoa_digit {n : Int} {j : Nat} {c : UInt8} (hj : fromB (Lib.itoa n) ≤ j) (hc : (Lib.itoa n)[j]? = some c) : 48 ≤ c.toNat ∧ c.toNat ≤ 57 := by
  rw [fromB_itoa] at hj
  by_cases hn : n < 0
  · rw [if_pos hn] at hj
    obtain ⟨u, rfl⟩ : ∃ u : Nat, n = -(u : Int) := ⟨n.natAbs, by omega⟩
    rw [Lib.itoa_neg u (by omega)] at hc
    obtain ⟨k, rfl⟩ : ∃ k, j = k + 1 := ⟨j - 1, by omega⟩
    rw [List.getElem?_cons_succ] at hc
    exact decDigits_digit u c (List.mem_of_getElem? hc)
  · obtain ⟨u, rfl⟩ : ∃ u : Nat, n = u := ⟨n.toNat, by omega⟩
    rw [Lib.itoa_nonneg] at hc
    exact decDigits_digit u c (List.mem_of_getElem? hc)
theorem dig_step {u : Nat} (hu : ¬ u < 10) : Lib.decDigits u = Lib.decDigits (u / 10) ++ [UInt8.ofNat (48 + u % 10)] := by rw [Lib.decDigits, dif_neg hu]
theorem dig_one {u : Nat} (hu : u < 10) : Lib.decDigits u = [UInt8.ofNat (48 + u % 10)] := by rw [Lib.decDigits, dif_pos hu, Nat.mod_eq_of_lt hu]
/-- the first end decides what 'number' reads -/
theorem numP_first {e : UInt8} {least m : Int} {r r' : Bs} {k : Nat} (he : 57 < e.toNat) (hno : ∀ j, j < k → r[j]? ≠ some e) (hk : r[k]? = some e) (h : numP e least r = some (m, r')) : r.take k = Lib.itoa m ∧ r.drop (k + 1) = r' ∧ inI m := by
  obtain ⟨h1, h2, _⟩ := numP_some h
  have hmem : e ∉ Lib.itoa m := fun q => by have := itoa_byte e q; omega
  have hkl : k = (Lib.itoa m).length := by
    rcases Nat.lt_trichotomy k (Lib.itoa m).length with g | g | g
    · rw [h1, List.getElem?_append_left g] at hk
      exact absurd (List.mem_of_getElem? hk) hmem
    · exact g
    · exact absurd (by rw [h1, List.getElem?_append_right (Nat.le_refl _)]; simp) (hno _ g)
  subst hkl
  refine ⟨by rw [h1, List.take_left'] <;> rfl, ?_, h2⟩
  rw [h1, List.drop_append, List.drop_eq_nil_of_le (by omega)]
  simp
theorem numP_far {e : UInt8} {least : Int} {r : Bs} (h : ∀ j, j < 21 → r[j]? ≠ some e) : numP e least r = none := by
  cases hq : numP e least r with
  | none => rfl
  | some x =>
    obtain ⟨m, r'⟩ := x
    obtain ⟨h1, h2, _⟩ := numP_some hq
    have := itoa_len h2
    exact absurd (by rw [h1, List.getElem?_append_right (Nat.le_refl _)]; simp) (h (Lib.itoa m).length (by omega))
theorem numP_back {e : UInt8} {least m : Int} {r : Bs} {k : Nat} (he : 57 < e.toNat) (hk : r[k]? = some e) (hm : inI m) (hl : least ≤ m) (h : r.take k = Lib.itoa m) : numP e least r = some (m, r.drop (k + 1)) := by
  have e1 : r = Lib.itoa m ++ e :: r.drop (k + 1) := by
    have h5 := List.getElem?_eq_some_iff.1 hk
    rw [← h, ← h5.2, List.getElem_cons_drop, List.take_append_drop]
  have := numP_enc (r := r.drop (k + 1)) he hm hl
  rw [← e1] at this
  exact this
/-! ### cells in order -/
structure CellsR (Z : List (Bs × Bs)) (c : Bs → Bs) : Prop where
  sorted : (Z.map (·.1)).Pairwise (· < ·)
  val : ∀ x ∈ Z, x.2 ≠ [] ∧ c x.1 = x.2
  none : ∀ k, k ∉ Z.map (·.1) → c k = []
theorem CellsR.empty : CellsR [] (fun _ => []) := ⟨by simp, by simp, fun _ _ => rfl⟩
def putL (k v : Bs) : Bool → List (Bs × Bs) → List (Bs × Bs)
  | true, [] => []
  | false, [] => [(k, v)]
  | true, x :: r => if x.1 = k then putL k v true r else x :: putL k v true r
  | false, x :: r => if x.1 = k then putL k v false r else if k < x.1 then (k, v) :: x :: putL k v true r else x :: putL k v false r
theorem putL_true (k v : Bs) : ∀ Z, putL k v true Z = Z.filter (fun x => decide (x.1 ≠ k))
  | [] => rfl
  | x :: r => by
    simp only [putL]
    split
    · rename_i h; rw [putL_true k v r, List.filter_cons_of_neg (by simpa using h)]
    · rename_i h; rw [putL_true k v r, List.filter_cons_of_pos (by simpa using h)]
theorem putL_mem (k v : Bs) : ∀ (Z : List (Bs × Bs)) (x : Bs × Bs), x ∈ putL k v false Z ↔ (x ∈ Z ∧ x.1 ≠ k) ∨ x = (k, v)
  | [], x => by simp [putL]
  | y :: r, x => by
    simp only [putL]
    split
    · rename_i h
      rw [putL_mem k v r x, List.mem_cons]
      constructor
      · rintro (⟨a, b⟩ | a)
        · exact .inl ⟨.inr a, b⟩
        · exact .inr a
      · rintro (⟨a | a, b⟩ | a)
        · subst a; exact absurd h b
        · exact .inl ⟨a, b⟩
        · exact .inr a
    · rename_i h
      split
      · rw [putL_true]
        simp only [List.mem_cons, List.mem_filter, decide_eq_true_eq]
        constructor
        · rintro (a | a | ⟨a, b⟩)
          · exact .inr a
          · subst a; exact .inl ⟨.inl rfl, h⟩
          · exact .inl ⟨.inr a, b⟩
        · rintro (⟨a | a, b⟩ | a)
          · exact .inr (.inl a)
          · exact .inr (.inr ⟨a, b⟩)
          · exact .inl a
      · rw [List.mem_cons, putL_mem k v r x, List.mem_cons]
        constructor
        · rintro (a | ⟨a, b⟩ | a)
          · subst a; exact .inl ⟨.inl rfl, h⟩
          · exact .inl ⟨.inr a, b⟩
          · exact .inr a
        · rintro (⟨a | a, b⟩ | a)
          · exact .inl a
          · exact .inr (.inl ⟨a, b⟩)
          · exact .inr (.inr a)
theorem lt_of_ne {a b : Bs} (h : ¬ a < b) (g : a ≠ b) : b < a :=
  Decidable.byContradiction fun q => g (List.le_antisymm (List.not_lt.1 q) (List.not_lt.1 h))
theorem putL_sorted (k v : Bs) : ∀ (Z : List (Bs × Bs)), (Z.map (·.1)).Pairwise (· < ·) → ((putL k v false Z).map (·.1)).Pairwise (· < ·)
  | [], _ => by simp [putL]
  | y :: r, hp => by
    rw [List.map_cons, List.pairwise_cons] at hp
    obtain ⟨h1, h2⟩ := hp
    simp only [putL]
    split
    · exact putL_sorted k v r h2
    · rename_i hne
      split
      · rename_i hlt
        rw [putL_true, List.map_cons, List.map_cons, List.pairwise_cons, List.pairwise_cons]
        have hsub : ∀ a ∈ (r.filter (fun x => decide (x.1 ≠ k))).map (·.1), a ∈ r.map (·.1) := fun a ha => by
          obtain ⟨x, hx, rfl⟩ := List.mem_map.1 ha
          exact List.mem_map.2 ⟨x, (List.mem_filter.1 hx).1, rfl⟩
        refine ⟨fun a ha => ?_, fun a ha => h1 a (hsub a ha), h2.sublist ((List.filter_sublist).map _)⟩
        rcases List.mem_cons.1 ha with rfl | ha
        · exact hlt
        · exact List.lt_trans hlt (h1 a (hsub a ha))
      · rename_i hge
        rw [List.map_cons, List.pairwise_cons]
        refine ⟨fun a ha => ?_, putL_sorted k v r h2⟩
        obtain ⟨x, hx, rfl⟩ := List.mem_map.1 ha
        rcases (putL_mem k v r x).1 hx with ⟨a, _⟩ | a
        · exact h1 _ (List.mem_map.2 ⟨x, a, rfl⟩)
        · subst a; exact lt_of_ne hge (fun e => hne e.symm)
theorem putL_len (k v : Bs) : ∀ (b : Bool) (Z : List (Bs × Bs)), (putL k v b Z).length ≤ Z.length + 1
  | true, [] => by simp [putL]
  | false, [] => by simp [putL]
  | true, x :: r => by
    have := putL_len k v true r
    simp only [putL]; split <;> simp <;> omega
  | false, x :: r => by
    have h1 := putL_len k v false r
    have h2 : (putL k v true r).length ≤ r.length := by rw [putL_true]; exact List.length_filter_le _ _
    simp only [putL]
    split
    · simp; omega
    split
    · simp; omega
    · simp; omega
def putZ (Z : List (Bs × Bs)) (k v : Bs) : List (Bs × Bs) := putL k v (decide (v = [])) Z
theorem CellsR.put {Z : List (Bs × Bs)} {c : Bs → Bs} (h : CellsR Z c) (k v : Bs) : CellsR (putZ Z k v) (updC c k v) := by
  unfold putZ
  by_cases hv : v = []
  · subst hv
    rw [decide_eq_true rfl, putL_true]
    refine ⟨h.sorted.sublist ((List.filter_sublist).map _), fun x hx => ?_, fun j hj => ?_⟩
    · obtain ⟨h1, h2⟩ := List.mem_filter.1 hx
      have h3 := h.val x h1
      refine ⟨h3.1, ?_⟩
      unfold updC; rw [if_neg (by simpa using h2)]; exact h3.2
    · unfold updC
      split
      · rfl
      · rename_i hne
        refine h.none j fun hm => hj ?_
        obtain ⟨x, hx, rfl⟩ := List.mem_map.1 hm
        exact List.mem_map.2 ⟨x, List.mem_filter.2 ⟨hx, by simpa using hne⟩, rfl⟩
  · rw [decide_eq_false hv]
    refine ⟨putL_sorted k v Z h.sorted, fun x hx => ?_, fun j hj => ?_⟩
    · rcases (putL_mem k v Z x).1 hx with ⟨h1, h2⟩ | rfl
      · have h3 := h.val x h1
        refine ⟨h3.1, ?_⟩
        unfold updC; rw [if_neg h2]; exact h3.2
      · exact ⟨hv, by unfold updC; rw [if_pos rfl]⟩
    · unfold updC
      rw [if_neg]
      · refine h.none j fun hm => hj ?_
        obtain ⟨x, hx, rfl⟩ := List.mem_map.1 hm
        by_cases hxk : x.1 = k
        · exact List.mem_map.2 ⟨(k, v), (putL_mem k v Z _).2 (.inr rfl), hxk.symm⟩
        · exact List.mem_map.2 ⟨x, (putL_mem k v Z _).2 (.inl ⟨hx, hxk⟩), rfl⟩
      · rintro rfl
        exact hj (List.mem_map.2 ⟨(j, v), (putL_mem j v Z _).2 (.inr rfl), rfl⟩)
theorem putZ_len (Z : List (Bs × Bs)) (k v : Bs) : (putZ Z k v).length ≤ Z.length + 1 := putL_len k v _ Z
/-- what is in order and has the same members is the same -/
theorem sorted_eq {l0 l : List Bs} (hn : l0.Nodup) (hs : l.Pairwise (· < ·)) (hm : ∀ k, k ∈ l0 ↔ k ∈ l) : sortS l0 = l := by
  have hln : l.Nodup := hs.imp fun h e => by subst e; exact List.lt_irrefl _ h
  have hp : l0.Perm l := (List.perm_ext_iff_of_nodup hn hln).2 hm
  refine List.Perm.eq_of_pairwise (le := fun a b => a ≤ b) (fun a b _ _ h1 h2 => List.le_antisymm h1 h2) ?_ (hs.imp fun h => List.le_of_lt h) ((sortS_perm l0).trans hp)
  have := List.pairwise_mergeSort (le := fun x y : Bs => decide (x ≤ y)) (fun a b c h1 h2 => by simp at h1 h2 ⊢; exact List.le_trans h1 h2) (fun a b => by simp; exact List.le_total a b) l0
  exact this.imp fun h => by simpa using h
end Go.Proofs.YtkaikhcpcbjkcaaGreatDoor
/- Closed facts of the program: offsets, sizes, zero values. -/
namespace Go.Proofs.YtkaikhcpcbjkcaaGreatDoor
open Go.RowKit M
theorem ag_3 : aggB Tryz.prog 3 = some false := by kernel_rfl
theorem ag_4 : aggB Tryz.prog 4 = some false := by kernel_rfl
theorem ag_9 : aggB Tryz.prog 9 = some false := by kernel_rfl
theorem ag_27 : aggB Tryz.prog 27 = some false := by kernel_rfl
theorem ag_32 : aggB Tryz.prog 32 = some false := by kernel_rfl
theorem ag_35 : aggB Tryz.prog 35 = some true := by kernel_rfl
theorem ag_37 : aggB Tryz.prog 37 = some true := by kernel_rfl
theorem ag_40 : aggB Tryz.prog 40 = some false := by kernel_rfl
theorem ag_82 : aggB Tryz.prog 82 = some false := by kernel_rfl
theorem ag_89 : aggB Tryz.prog 89 = some false := by kernel_rfl
theorem asz_35 : allSz Tryz.prog 35 = true := by kernel_rfl
theorem asz_50 : allSz Tryz.prog 50 = true := by kernel_rfl
theorem asz_93 : allSz Tryz.prog 93 = true := by kernel_rfl
theorem asz_132 : allSz Tryz.prog 132 = true := by kernel_rfl
theorem asz_135 : allSz Tryz.prog 135 = true := by kernel_rfl
theorem cal_8 : callB Tryz.prog 8 = true := by kernel_rfl
theorem cal_9 : callB Tryz.prog 9 = true := by kernel_rfl
theorem cal_11 : callB Tryz.prog 11 = true := by kernel_rfl
theorem cal_12 : callB Tryz.prog 12 = true := by kernel_rfl
theorem cal_13 : callB Tryz.prog 13 = true := by kernel_rfl
theorem cal_15 : callB Tryz.prog 15 = true := by kernel_rfl
theorem cal_16 : callB Tryz.prog 16 = true := by kernel_rfl
theorem cal_17 : callB Tryz.prog 17 = true := by kernel_rfl
theorem cal_18 : callB Tryz.prog 18 = true := by kernel_rfl
theorem cal_19 : callB Tryz.prog 19 = true := by kernel_rfl
theorem cal_20 : callB Tryz.prog 20 = true := by kernel_rfl
theorem cal_21 : callB Tryz.prog 21 = true := by kernel_rfl
theorem cal_22 : callB Tryz.prog 22 = true := by kernel_rfl
theorem cal_23 : callB Tryz.prog 23 = true := by kernel_rfl
theorem cal_24 : callB Tryz.prog 24 = true := by kernel_rfl
theorem cal_25 : callB Tryz.prog 25 = true := by kernel_rfl
theorem cal_26 : callB Tryz.prog 26 = true := by kernel_rfl
theorem cal_27 : callB Tryz.prog 27 = true := by kernel_rfl
theorem cal_28 : callB Tryz.prog 28 = true := by kernel_rfl
theorem cal_29 : callB Tryz.prog 29 = true := by kernel_rfl
theorem cal_30 : callB Tryz.prog 30 = true := by kernel_rfl
theorem cal_31 : callB Tryz.prog 31 = true := by kernel_rfl
theorem cal_32 : callB Tryz.prog 32 = true := by kernel_rfl
theorem cal_33 : callB Tryz.prog 33 = true := by kernel_rfl
theorem cal_34 : callB Tryz.prog 34 = true := by kernel_rfl
theorem cal_35 : callB Tryz.prog 35 = true := by kernel_rfl
theorem cal_36 : callB Tryz.prog 36 = true := by kernel_rfl
theorem cal_37 : callB Tryz.prog 37 = true := by kernel_rfl
theorem cal_38 : callB Tryz.prog 38 = true := by kernel_rfl
theorem cal_40 : callB Tryz.prog 40 = true := by kernel_rfl
theorem cal_42 : callB Tryz.prog 42 = true := by kernel_rfl
theorem cal_43 : callB Tryz.prog 43 = true := by kernel_rfl
theorem cal_44 : callB Tryz.prog 44 = true := by kernel_rfl
theorem cal_45 : callB Tryz.prog 45 = true := by kernel_rfl
theorem cal_46 : callB Tryz.prog 46 = true := by kernel_rfl
theorem cal_48 : callB Tryz.prog 48 = true := by kernel_rfl
theorem cal_49 : callB Tryz.prog 49 = true := by kernel_rfl
theorem cal_50 : callB Tryz.prog 50 = true := by kernel_rfl
theorem cal_51 : callB Tryz.prog 51 = true := by kernel_rfl
theorem cal_52 : callB Tryz.prog 52 = true := by kernel_rfl
theorem cal_53 : callB Tryz.prog 53 = true := by kernel_rfl
theorem cal_56 : callB Tryz.prog 56 = true := by kernel_rfl
theorem cal_57 : callB Tryz.prog 57 = true := by kernel_rfl
theorem cal_58 : callB Tryz.prog 58 = true := by kernel_rfl
theorem cal_59 : callB Tryz.prog 59 = true := by kernel_rfl
theorem cal_60 : callB Tryz.prog 60 = true := by kernel_rfl
theorem cal_61 : callB Tryz.prog 61 = true := by kernel_rfl
theorem cal_62 : callB Tryz.prog 62 = true := by kernel_rfl
theorem cal_63 : callB Tryz.prog 63 = true := by kernel_rfl
theorem cal_64 : callB Tryz.prog 64 = true := by kernel_rfl
theorem cal_65 : callB Tryz.prog 65 = true := by kernel_rfl
theorem cal_66 : callB Tryz.prog 66 = true := by kernel_rfl
theorem cal_67 : callB Tryz.prog 67 = true := by kernel_rfl
theorem cal_68 : callB Tryz.prog 68 = true := by kernel_rfl
theorem cal_69 : callB Tryz.prog 69 = true := by kernel_rfl
theorem cal_70 : callB Tryz.prog 70 = true := by kernel_rfl
theorem cal_71 : callB Tryz.prog 71 = true := by kernel_rfl
theorem cal_72 : callB Tryz.prog 72 = true := by kernel_rfl
theorem cal_73 : callB Tryz.prog 73 = true := by kernel_rfl
theorem cal_74 : callB Tryz.prog 74 = true := by kernel_rfl
theorem cal_75 : callB Tryz.prog 75 = true := by kernel_rfl
theorem cal_76 : callB Tryz.prog 76 = true := by kernel_rfl
theorem cal_77 : callB Tryz.prog 77 = true := by kernel_rfl
theorem cal_78 : callB Tryz.prog 78 = true := by kernel_rfl
theorem cal_79 : callB Tryz.prog 79 = true := by kernel_rfl
theorem cal_80 : callB Tryz.prog 80 = true := by kernel_rfl
theorem cal_81 : callB Tryz.prog 81 = true := by kernel_rfl
theorem cal_82 : callB Tryz.prog 82 = true := by kernel_rfl
theorem cal_83 : callB Tryz.prog 83 = true := by kernel_rfl
theorem cal_86 : callB Tryz.prog 86 = true := by kernel_rfl
theorem cal_87 : callB Tryz.prog 87 = true := by kernel_rfl
theorem cal_88 : callB Tryz.prog 88 = true := by kernel_rfl
theorem cal_89 : callB Tryz.prog 89 = true := by kernel_rfl
theorem cal_90 : callB Tryz.prog 90 = true := by kernel_rfl
theorem cal_91 : callB Tryz.prog 91 = true := by kernel_rfl
theorem cal_93 : callB Tryz.prog 93 = true := by kernel_rfl
theorem cal_94 : callB Tryz.prog 94 = true := by kernel_rfl
theorem cal_97 : callB Tryz.prog 97 = true := by kernel_rfl
theorem cal_98 : callB Tryz.prog 98 = true := by kernel_rfl
theorem cal_99 : callB Tryz.prog 99 = true := by kernel_rfl
theorem cal_100 : callB Tryz.prog 100 = true := by kernel_rfl
theorem cal_101 : callB Tryz.prog 101 = true := by kernel_rfl
theorem cal_102 : callB Tryz.prog 102 = true := by kernel_rfl
theorem cal_103 : callB Tryz.prog 103 = true := by kernel_rfl
theorem cal_104 : callB Tryz.prog 104 = true := by kernel_rfl
theorem cal_105 : callB Tryz.prog 105 = true := by kernel_rfl
theorem cal_106 : callB Tryz.prog 106 = true := by kernel_rfl
theorem cal_118 : callB Tryz.prog 118 = true := by kernel_rfl
theorem cal_119 : callB Tryz.prog 119 = true := by kernel_rfl
theorem cal_120 : callB Tryz.prog 120 = true := by kernel_rfl
theorem cal_121 : callB Tryz.prog 121 = true := by kernel_rfl
theorem cal_122 : callB Tryz.prog 122 = true := by kernel_rfl
theorem cal_123 : callB Tryz.prog 123 = true := by kernel_rfl
theorem cal_124 : callB Tryz.prog 124 = true := by kernel_rfl
theorem cal_125 : callB Tryz.prog 125 = true := by kernel_rfl
theorem cal_127 : callB Tryz.prog 127 = true := by kernel_rfl
theorem es_22 : elemSz Tryz.prog 22 = some 9 := by kernel_rfl
theorem es_40 : elemSz Tryz.prog 40 = some 1 := by kernel_rfl
theorem es_45 : elemSz Tryz.prog 45 = some 2 := by kernel_rfl
theorem fo_35_0 : fldOff Tryz.prog 35 0 = some 0 := by kernel_rfl
theorem fo_35_1 : fldOff Tryz.prog 35 1 = some 1 := by kernel_rfl
theorem fo_35_2 : fldOff Tryz.prog 35 2 = some 2 := by kernel_rfl
theorem fo_37_0 : fldOff Tryz.prog 37 0 = some 0 := by kernel_rfl
theorem fo_37_1 : fldOff Tryz.prog 37 1 = some 1 := by kernel_rfl
theorem fo_37_2 : fldOff Tryz.prog 37 2 = some 2 := by kernel_rfl
theorem fo_37_3 : fldOff Tryz.prog 37 3 = some 3 := by kernel_rfl
theorem fo_37_4 : fldOff Tryz.prog 37 4 = some 4 := by kernel_rfl
theorem fo_37_5 : fldOff Tryz.prog 37 5 = some 5 := by kernel_rfl
theorem fo_37_6 : fldOff Tryz.prog 37 6 = some 6 := by kernel_rfl
theorem fo_50_0 : fldOff Tryz.prog 50 0 = some 0 := by kernel_rfl
theorem fo_50_1 : fldOff Tryz.prog 50 1 = some 1 := by kernel_rfl
theorem fo_55_0 : fldOff Tryz.prog 55 0 = some 0 := by kernel_rfl
theorem fo_55_1 : fldOff Tryz.prog 55 1 = some 1 := by kernel_rfl
theorem fo_93_0 : fldOff Tryz.prog 93 0 = some 0 := by kernel_rfl
theorem fo_132_0 : fldOff Tryz.prog 132 0 = some 0 := by kernel_rfl
theorem fo_132_1 : fldOff Tryz.prog 132 1 = some 1 := by kernel_rfl
theorem fo_135_0 : fldOff Tryz.prog 135 0 = some 0 := by kernel_rfl
theorem fo_135_1 : fldOff Tryz.prog 135 1 = some 1 := by kernel_rfl
theorem ifo_9 : (Tryz.prog.info? 9).map (fun i => (i.zero, i.size, i.bytes)) = some (some (.string ⟨#[]⟩), 1, 16) := by kernel_rfl
theorem ifz_5 : (Tryz.prog.info? 5).map (fun i => (i.zero, i.size)) = some (some (.int .u8 0), 1) := by kernel_rfl
theorem ifz_9 : (Tryz.prog.info? 9).map (fun i => (i.zero, i.size)) = some (some (.string ⟨#[]⟩), 1) := by kernel_rfl
theorem mix : Tryz.prog.follows .mixedOrders = true := by kernel_rfl
theorem nif_25 : notIface Tryz.prog 25 = true := by kernel_rfl
theorem pl_35_ : structPl Tryz.prog 35 [] = some [] := by kernel_rfl
theorem pl_35_0 : structPl Tryz.prog 35 [0] = some [(0, 1)] := by kernel_rfl
theorem pl_35_0_1_2 : structPl Tryz.prog 35 [0, 1, 2] = some [(0, 1), (1, 1), (2, 1)] := by kernel_rfl
theorem pl_35_0_2 : structPl Tryz.prog 35 [0, 2] = some [(0, 1), (2, 1)] := by kernel_rfl
theorem pl_50_ : structPl Tryz.prog 50 [] = some [] := by kernel_rfl
theorem pl_93_0_1_2 : structPl Tryz.prog 93 [0, 1, 2] = some [(0, 1), (1, 1), (2, 1)] := by kernel_rfl
theorem pl_132_0 : structPl Tryz.prog 132 [0] = some [(0, 1)] := by kernel_rfl
theorem pl_135_0 : structPl Tryz.prog 135 [0] = some [(0, 1)] := by kernel_rfl
theorem sz_3 : szOf Tryz.prog 3 = some 1 := by kernel_rfl
theorem sz_4 : szOf Tryz.prog 4 = some 1 := by kernel_rfl
theorem sz_9 : szOf Tryz.prog 9 = some 1 := by kernel_rfl
theorem sz_27 : szOf Tryz.prog 27 = some 1 := by kernel_rfl
theorem sz_35 : szOf Tryz.prog 35 = some 3 := by kernel_rfl
theorem sz_37 : szOf Tryz.prog 37 = some 9 := by kernel_rfl
theorem sz_40 : szOf Tryz.prog 40 = some 1 := by kernel_rfl
theorem zr_9 : zeroOf Tryz.prog 9 = some (some (.string ⟨#[]⟩)) := by kernel_rfl
theorem zr_27 : zeroOf Tryz.prog 27 = some (some (.int .i64 0)) := by kernel_rfl
theorem zr_35 : zeroOf Tryz.prog 35 = some (some (.agg #[(.int .i64 0), (.int .i64 0), (.int .i64 0)])) := by kernel_rfl
theorem zr_37 : zeroOf Tryz.prog 37 = some (some (.agg #[(.int .i64 0), (.string ⟨#[]⟩), (.string ⟨#[]⟩), (.string ⟨#[]⟩), (.string ⟨#[]⟩), (.string ⟨#[]⟩), (.int .i64 0), (.int .i64 0), (.int .i64 0)])) := by kernel_rfl
theorem zr_50 : zeroOf Tryz.prog 50 = some (some (.agg #[(.slice none 0 0), (.slice none 0 0), (.slice none 0 0), (.slice none 0 0), (.slice none 0 0), (.slice none 0 0), (.int .i64 0)])) := by kernel_rfl
theorem zr_93 : zeroOf Tryz.prog 93 = some (some (.agg #[(.map none), (.map none), (.map none), (.int .i64 0)])) := by kernel_rfl
theorem zr_132 : zeroOf Tryz.prog 132 = some (some (.agg #[(.string ⟨#[]⟩), (.bool false)])) := by kernel_rfl
theorem zr_135 : zeroOf Tryz.prog 135 = some (some (.agg #[(.string ⟨#[]⟩), (.bool false)])) := by kernel_rfl
end Go.Proofs.YtkaikhcpcbjkcaaGreatDoor
/-
  DERIVED: THE SHELF's CONTRACTS AT THIS DUMP, IN PLAIN WORDS (tools/lay-plain.mjs out of 'TryzShelf.lean', which tools/lay-shelf.mjs wrote): THE SAME DECLARATIONS UNDER THE SAME NAMES: 'import', 'namespace', 'open', 'def', 'theorem' AND NOTHING ELSE: no command of the shelf's: FOR A HAND-IN. Each laying: the table of numbers ('.._ren') and one theorem, a field a fact of the dump's own or the kernel's comparison; each contract: ONE APPLICATION.
-/
namespace Go.Proofs
open Go.Shelf
def Tryz.lays137_ren : Go.Shelf.Ren := ⟨fun | 137 => 119 | 217 => 127 | 266 => 141 | n => n, fun | 9 => 9 | 5 => 5 | 3 => 3 | n => n, fun | n => n⟩
theorem Tryz.lays137 : Go.Proofs.Lays.n137 Tryz.prog Tryz.lays137_ren := {
  mixed := by kernel_rfl
  f137 := Tryz.func119.trans (congrArg some (by kernel_rfl))
  f217 := Tryz.func127.trans (congrArg some (by kernel_rfl))
  f266 := Tryz.func141.trans (congrArg some (by kernel_rfl))
  t3 := Tryz.underlying3
  a3 := Tryz.isAgg3
  z3 := Tryz.sizeOf3
  v3 := Tryz.zeroValue3
  t5 := Tryz.underlying5
  a5 := Tryz.isAgg5
  z5 := Tryz.sizeOf5
  v5 := Tryz.zeroValue5
  t9 := Tryz.underlying9
  a9 := Tryz.isAgg9
  z9 := Tryz.sizeOf9
  v9 := Tryz.zeroValue9 }
open Go.RowKit in
/-- strings.IndexByte: "IndexByte returns the index of the first instance of c in s, or -1 if c is not present in s.": IT RETURNS 'Lib.indexByte s c'; the world is as it was. (LAID: no walk: one application.) -/
theorem Tryz.strings_IndexByte (s : ByteArray) (c : Int) (w : World) :
    Calls Tryz.prog 119 #[.string s, .int .u8 c] w fun e w' => e = .returned (.int .i64 (Lib.indexByte s.data.toList c.toNat.toUInt8)) ∧ w' = w := Any.strings_IndexByte Tryz.lays137 s c w
def Tryz.laysM171_ren : Go.Shelf.Ren := ⟨fun | 171 => 122 | 243 => 139 | 246 => 149 | 283 => 152 | 284 => 153 | 285 => 154 | 286 => 155 | 129 => 117 | 317 => 158 | 318 => 159 | 319 => 160 | 320 => 161 | 337 => 162 | 338 => 163 | n => n, fun | 3 => 3 | 9 => 9 | 2 => 2 | 4 => 4 | 171 => 191 | 0 => 0 | 53 => 153 | 37 => 140 | 5 => 5 | 173 => 193 | 212 => 200 | 51 => 151 | 20 => 20 | 213 => 201 | 46 => 126 | 232 => 203 | 233 => 96 | n => n, fun | 17 => 5 | 18 => 6 | 19 => 7 | n => n⟩
theorem Tryz.laysM171 : Go.Proofs.LaysM.n171 Tryz.prog Tryz.laysM171_ren := {
  mixed := by kernel_rfl
  f129 := Tryz.func117.trans (congrArg some (by kernel_rfl))
  f171 := Tryz.func122.trans (congrArg some (by kernel_rfl))
  f243 := Tryz.func139.trans (congrArg some (by kernel_rfl))
  f246 := Tryz.func149.trans (congrArg some (by kernel_rfl))
  f283 := Tryz.func152.trans (congrArg some (by kernel_rfl))
  f284 := Tryz.func153.trans (congrArg some (by kernel_rfl))
  f285 := Tryz.func154.trans (congrArg some (by kernel_rfl))
  f286 := Tryz.func155.trans (congrArg some (by kernel_rfl))
  f317 := Tryz.func158.trans (congrArg some (by kernel_rfl))
  f318 := Tryz.func159.trans (congrArg some (by kernel_rfl))
  f319 := Tryz.func160.trans (congrArg some (by kernel_rfl))
  f320 := Tryz.func161.trans (congrArg some (by kernel_rfl))
  f337 := Tryz.func162.trans (congrArg some (by kernel_rfl))
  f338 := Tryz.func163.trans (congrArg some (by kernel_rfl))
  t0 := Tryz.underlying0
  a0 := Tryz.isAgg0
  z0 := Tryz.sizeOf0
  v0 := Tryz.zeroValue0
  t2 := Tryz.underlying2
  a2 := Tryz.isAgg2
  z2 := Tryz.sizeOf2
  v2 := Tryz.zeroValue2
  t3 := Tryz.underlying3
  a3 := Tryz.isAgg3
  z3 := Tryz.sizeOf3
  v3 := Tryz.zeroValue3
  t4 := Tryz.underlying4
  a4 := Tryz.isAgg4
  z4 := Tryz.sizeOf4
  v4 := Tryz.zeroValue4
  t5 := Tryz.underlying5
  a5 := Tryz.isAgg5
  z5 := Tryz.sizeOf5
  v5 := Tryz.zeroValue5
  t9 := Tryz.underlying9
  a9 := Tryz.isAgg9
  z9 := Tryz.sizeOf9
  v9 := Tryz.zeroValue9
  t20 := Tryz.underlying20
  a20 := Tryz.isAgg20
  z20 := Tryz.sizeOf20
  v20 := Tryz.zeroValue20
  t37 := Tryz.underlying140
  a37 := Tryz.isAgg140
  z37 := Tryz.sizeOf140
  v37 := Tryz.zeroValue140
  t46 := Tryz.underlying126
  a46 := Tryz.isAgg126
  z46 := Tryz.sizeOf126
  v46 := Tryz.zeroValue126
  t51 := Tryz.underlying151
  a51 := Tryz.isAgg151
  z51 := Tryz.sizeOf151
  v51 := Tryz.zeroValue151
  t53 := Tryz.underlying153
  a53 := Tryz.isAgg153
  z53 := Tryz.sizeOf153
  v53 := Tryz.zeroValue153
  t171 := Tryz.underlying191
  a171 := Tryz.isAgg191
  z171 := Tryz.sizeOf191
  v171 := Tryz.zeroValue191
  t173 := Tryz.underlying193
  a173 := Tryz.isAgg193
  z173 := Tryz.sizeOf193
  v173 := Tryz.zeroValue193
  t212 := Tryz.underlying200
  a212 := Tryz.isAgg200
  z212 := Tryz.sizeOf200
  v212 := Tryz.zeroValue200
  t213 := Tryz.underlying201
  a213 := Tryz.isAgg201
  z213 := Tryz.sizeOf201
  t232 := Tryz.underlying203
  a232 := Tryz.isAgg203
  z232 := Tryz.sizeOf203
  v232 := Tryz.zeroValue203
  t233 := Tryz.underlying96
  a233 := Tryz.isAgg96
  z233 := Tryz.sizeOf96
  v233 := Tryz.zeroValue96
  g17 := by kernel_rfl
  g18 := by kernel_rfl
  g19 := by kernel_rfl
  i0 := by kernel_rfl
  i2 := by kernel_rfl
  i3 := by kernel_rfl
  i4 := by kernel_rfl
  i5 := by kernel_rfl
  i9 := by kernel_rfl
  i20 := by kernel_rfl
  i37 := by kernel_rfl
  i46 := by kernel_rfl
  i51 := by kernel_rfl
  i53 := by kernel_rfl
  i171 := by kernel_rfl
  i173 := by kernel_rfl
  i212 := by kernel_rfl
  i232 := by kernel_rfl
  i233 := by kernel_rfl
  m17 := by kernel_rfl
  m18 := by kernel_rfl
  m19 := by kernel_rfl }
open Go.RowKit Go.Sort Go.Lib in
/-- strconv.Itoa: "Itoa is equivalent to FormatInt(int64(i), 10).": i's DECIMAL NUMERAL ('Lib.itoa': a '-' where i is negative, then the digits), FOR EVERY int. The world behind the call: the world before it, new blocks behind the heap (the library's 'var a [24]byte'), draws. (LAID: no walk: one application.) -/
theorem Tryz.strconv_Itoa (n : Int) (h0 : -9223372036854775808 ≤ n) (h1 : n ≤ 9223372036854775807) (w : World) (htab : Lib.TabIs Tryz.prog w "internal/strconv.uint64pow10" .u64 Lib.pow10Tab) :
    Calls Tryz.prog 122 #[.int .i64 n] w fun e w' => e = .returned (.string ⟨(Lib.itoa n).toArray⟩) ∧ ∃ k os, w' = grow (w.drewN k) os := Any.strconv_Itoa Tryz.laysM171 n h0 h1 w htab
def Tryz.laysM316_ren : Go.Shelf.Ren := ⟨fun | 316 => 94 | n => n, fun | 9 => 9 | 3 => 3 | 4 => 4 | 37 => 140 | 0 => 0 | 127 => 141 | 5 => 5 | n => n, fun | n => n⟩
theorem Tryz.laysM316 : Go.Proofs.LaysM.n316 Tryz.prog Tryz.laysM316_ren := {
  mixed := by kernel_rfl
  f316 := Tryz.func94.trans (congrArg some (by kernel_rfl))
  t0 := Tryz.underlying0
  a0 := Tryz.isAgg0
  z0 := Tryz.sizeOf0
  v0 := Tryz.zeroValue0
  t3 := Tryz.underlying3
  a3 := Tryz.isAgg3
  z3 := Tryz.sizeOf3
  v3 := Tryz.zeroValue3
  t4 := Tryz.underlying4
  a4 := Tryz.isAgg4
  z4 := Tryz.sizeOf4
  v4 := Tryz.zeroValue4
  t9 := Tryz.underlying9
  a9 := Tryz.isAgg9
  z9 := Tryz.sizeOf9
  v9 := Tryz.zeroValue9
  t37 := Tryz.underlying140
  a37 := Tryz.isAgg140
  z37 := Tryz.sizeOf140
  v37 := Tryz.zeroValue140
  t127 := Tryz.underlying141
  a127 := Tryz.isAgg141
  z127 := Tryz.sizeOf141
  v127 := Tryz.zeroValue141
  t5 := Tryz.underlying5
  a5 := Tryz.isAgg5
  z5 := Tryz.sizeOf5
  v5 := Tryz.zeroValue5
  i0 := by kernel_rfl
  i3 := by kernel_rfl
  i4 := by kernel_rfl
  i5 := by kernel_rfl
  i9 := by kernel_rfl
  i37 := by kernel_rfl
  i127 := by kernel_rfl }
open Go.RowKit in
/-- internal/stringslite.Clone (what strings.Clone calls): "Clone returns a fresh copy of s.": THE SAME BYTES. Of what was there nothing has turned (a new row is laid, and frozen, where s is not empty). (LAID: no walk: one application.) -/
theorem Tryz.stringslite_Clone (s : ByteArray) (w : World) (hlim : s.size ≤ 281474976710656) :
    Calls Tryz.prog 94 #[.string s] w fun e w' => e = .returned (.string s) ∧ Below w.heap.size w w' := Any.stringslite_Clone Tryz.laysM316 s w hlim
def Tryz.laysC172_ren : Go.Shelf.Ren := ⟨fun | 172 => 121 | 244 => 137 | 245 => 138 | 247 => 144 | 279 => 145 | 280 => 146 | 281 => 147 | 282 => 148 | 287 => 150 | 316 => 94 | 171 => 122 | 205 => 151 | 321 => 156 | 322 => 157 | 243 => 139 | 246 => 149 | 283 => 152 | 284 => 153 | 285 => 154 | 286 => 155 | 129 => 117 | 317 => 158 | 318 => 159 | 319 => 160 | 320 => 161 | 337 => 162 | 338 => 163 | n => n, fun | 9 => 9 | 3 => 3 | 75 => 156 | 76 => 157 | 4 => 4 | 5 => 5 | 167 => 175 | 37 => 140 | 0 => 0 | 85 => 176 | 2 => 2 | 168 => 178 | 53 => 153 | 175 => 186 | 46 => 126 | 210 => 189 | 127 => 141 | 145 => 198 | 143 => 196 | 21 => 21 | 171 => 191 | 173 => 193 | 212 => 200 | 51 => 151 | 20 => 20 | 213 => 201 | 232 => 203 | 233 => 96 | 80 => 204 | n => n, fun | 15 => 3 | 16 => 4 | 17 => 5 | 18 => 6 | 19 => 7 | n => n⟩
theorem Tryz.laysC172 : Go.Proofs.LaysC.n172 Tryz.prog Tryz.laysC172_ren := {
  mixed := by kernel_rfl
  f129 := Tryz.func117.trans (congrArg some (by kernel_rfl))
  f171 := Tryz.func122.trans (congrArg some (by kernel_rfl))
  f172 := Tryz.func121.trans (congrArg some (by kernel_rfl))
  f205 := Tryz.func151.trans (congrArg some (by kernel_rfl))
  f243 := Tryz.func139.trans (congrArg some (by kernel_rfl))
  f244 := Tryz.func137.trans (congrArg some (by kernel_rfl))
  f245 := Tryz.func138.trans (congrArg some (by kernel_rfl))
  f246 := Tryz.func149.trans (congrArg some (by kernel_rfl))
  f247 := Tryz.func144.trans (congrArg some (by kernel_rfl))
  f279 := Tryz.func145.trans (congrArg some (by kernel_rfl))
  f280 := Tryz.func146.trans (congrArg some (by kernel_rfl))
  f281 := Tryz.func147.trans (congrArg some (by kernel_rfl))
  f282 := Tryz.func148.trans (congrArg some (by kernel_rfl))
  f283 := Tryz.func152.trans (congrArg some (by kernel_rfl))
  f284 := Tryz.func153.trans (congrArg some (by kernel_rfl))
  f285 := Tryz.func154.trans (congrArg some (by kernel_rfl))
  f286 := Tryz.func155.trans (congrArg some (by kernel_rfl))
  f287 := Tryz.func150.trans (congrArg some (by kernel_rfl))
  f316 := Tryz.func94.trans (congrArg some (by kernel_rfl))
  f317 := Tryz.func158.trans (congrArg some (by kernel_rfl))
  f318 := Tryz.func159.trans (congrArg some (by kernel_rfl))
  f319 := Tryz.func160.trans (congrArg some (by kernel_rfl))
  f320 := Tryz.func161.trans (congrArg some (by kernel_rfl))
  f321 := Tryz.func156.trans (congrArg some (by kernel_rfl))
  f322 := Tryz.func157.trans (congrArg some (by kernel_rfl))
  f337 := Tryz.func162.trans (congrArg some (by kernel_rfl))
  f338 := Tryz.func163.trans (congrArg some (by kernel_rfl))
  t0 := Tryz.underlying0
  a0 := Tryz.isAgg0
  z0 := Tryz.sizeOf0
  v0 := Tryz.zeroValue0
  t2 := Tryz.underlying2
  a2 := Tryz.isAgg2
  z2 := Tryz.sizeOf2
  v2 := Tryz.zeroValue2
  t3 := Tryz.underlying3
  a3 := Tryz.isAgg3
  z3 := Tryz.sizeOf3
  v3 := Tryz.zeroValue3
  t4 := Tryz.underlying4
  a4 := Tryz.isAgg4
  z4 := Tryz.sizeOf4
  v4 := Tryz.zeroValue4
  t5 := Tryz.underlying5
  a5 := Tryz.isAgg5
  z5 := Tryz.sizeOf5
  v5 := Tryz.zeroValue5
  t9 := Tryz.underlying9
  a9 := Tryz.isAgg9
  z9 := Tryz.sizeOf9
  v9 := Tryz.zeroValue9
  t20 := Tryz.underlying20
  a20 := Tryz.isAgg20
  z20 := Tryz.sizeOf20
  v20 := Tryz.zeroValue20
  t21 := Tryz.underlying21
  a21 := Tryz.isAgg21
  z21 := Tryz.sizeOf21
  v21 := Tryz.zeroValue21
  t37 := Tryz.underlying140
  a37 := Tryz.isAgg140
  z37 := Tryz.sizeOf140
  v37 := Tryz.zeroValue140
  t46 := Tryz.underlying126
  a46 := Tryz.isAgg126
  z46 := Tryz.sizeOf126
  v46 := Tryz.zeroValue126
  t51 := Tryz.underlying151
  a51 := Tryz.isAgg151
  z51 := Tryz.sizeOf151
  v51 := Tryz.zeroValue151
  t53 := Tryz.underlying153
  a53 := Tryz.isAgg153
  z53 := Tryz.sizeOf153
  v53 := Tryz.zeroValue153
  t75 := Tryz.underlying156
  a75 := Tryz.isAgg156
  z75 := Tryz.sizeOf156
  v75 := Tryz.zeroValue156
  t76 := Tryz.underlying157
  a76 := Tryz.isAgg157
  z76 := Tryz.sizeOf157
  v76 := Tryz.zeroValue157
  t85 := Tryz.underlying176
  a85 := Tryz.isAgg176
  z85 := Tryz.sizeOf176
  v85 := Tryz.zeroValue176
  t127 := Tryz.underlying141
  a127 := Tryz.isAgg141
  z127 := Tryz.sizeOf141
  v127 := Tryz.zeroValue141
  t143 := Tryz.underlying196
  a143 := Tryz.isAgg196
  z143 := Tryz.sizeOf196
  v143 := Tryz.zeroValue196
  t145 := Tryz.underlying198
  a145 := Tryz.isAgg198
  z145 := Tryz.sizeOf198
  v145 := Tryz.zeroValue198
  t167 := Tryz.underlying175
  a167 := Tryz.isAgg175
  z167 := Tryz.sizeOf175
  v167 := Tryz.zeroValue175
  t168 := Tryz.underlying178
  a168 := Tryz.isAgg178
  z168 := Tryz.sizeOf178
  v168 := Tryz.zeroValue178
  t171 := Tryz.underlying191
  a171 := Tryz.isAgg191
  z171 := Tryz.sizeOf191
  v171 := Tryz.zeroValue191
  t173 := Tryz.underlying193
  a173 := Tryz.isAgg193
  z173 := Tryz.sizeOf193
  v173 := Tryz.zeroValue193
  t175 := Tryz.underlying186
  a175 := Tryz.isAgg186
  z175 := Tryz.sizeOf186
  v175 := Tryz.zeroValue186
  t210 := Tryz.underlying189
  a210 := Tryz.isAgg189
  z210 := Tryz.sizeOf189
  v210 := Tryz.zeroValue189
  t212 := Tryz.underlying200
  a212 := Tryz.isAgg200
  z212 := Tryz.sizeOf200
  v212 := Tryz.zeroValue200
  t213 := Tryz.underlying201
  a213 := Tryz.isAgg201
  z213 := Tryz.sizeOf201
  t232 := Tryz.underlying203
  a232 := Tryz.isAgg203
  z232 := Tryz.sizeOf203
  v232 := Tryz.zeroValue203
  t233 := Tryz.underlying96
  a233 := Tryz.isAgg96
  z233 := Tryz.sizeOf96
  v233 := Tryz.zeroValue96
  g15 := by kernel_rfl
  g16 := by kernel_rfl
  g17 := by kernel_rfl
  g18 := by kernel_rfl
  g19 := by kernel_rfl
  t80 := Tryz.underlying204
  a80 := Tryz.isAgg204
  z80 := Tryz.sizeOf204
  v80 := Tryz.zeroValue204
  i0 := by kernel_rfl
  i2 := by kernel_rfl
  i3 := by kernel_rfl
  i4 := by kernel_rfl
  i5 := by kernel_rfl
  i9 := by kernel_rfl
  i20 := by kernel_rfl
  i21 := by kernel_rfl
  i37 := by kernel_rfl
  i46 := by kernel_rfl
  i51 := by kernel_rfl
  i53 := by kernel_rfl
  i75 := by kernel_rfl
  i76 := by kernel_rfl
  i80 := by kernel_rfl
  i85 := by kernel_rfl
  i127 := by kernel_rfl
  i143 := by kernel_rfl
  i145 := by kernel_rfl
  i167 := by kernel_rfl
  i168 := by kernel_rfl
  i171 := by kernel_rfl
  i173 := by kernel_rfl
  i175 := by kernel_rfl
  i210 := by kernel_rfl
  i212 := by kernel_rfl
  i232 := by kernel_rfl
  i233 := by kernel_rfl
  m15 := by kernel_rfl
  m16 := by kernel_rfl
  m17 := by kernel_rfl
  m18 := by kernel_rfl
  m19 := by kernel_rfl
  c0 := by kernel_rfl
  c2 := by kernel_rfl
  c3 := by kernel_rfl
  c4 := by kernel_rfl
  c5 := by kernel_rfl
  c9 := by kernel_rfl
  c20 := by kernel_rfl
  c21 := by kernel_rfl
  c37 := by kernel_rfl
  c46 := by kernel_rfl
  c51 := by kernel_rfl
  c53 := by kernel_rfl
  c75 := by kernel_rfl
  c76 := by kernel_rfl
  c80 := by kernel_rfl
  c85 := by kernel_rfl
  c127 := by kernel_rfl
  c143 := by kernel_rfl
  c145 := by kernel_rfl
  c167 := by kernel_rfl
  c168 := by kernel_rfl
  c171 := by kernel_rfl
  c173 := by kernel_rfl
  c175 := by kernel_rfl
  c210 := by kernel_rfl
  c212 := by kernel_rfl
  c213 := by kernel_rfl
  c232 := by kernel_rfl
  c233 := by kernel_rfl }
open Go.RowKit in
/-- strconv.Atoi, AT EVERY STRING THAT SPELLS AN int ('Lib.atoiAll .. = .ok v'; of whatever length: leading zeros count): v, AND NO ERROR. The world: as it was, or with the one new row that '[]byte(..)' lays. (LAID: no walk: one application.) -/
theorem Tryz.strconv_Atoi_ok (s : ByteArray) (hmax : s.size ≤ 9223372036854775806) (v : Int) (h : Lib.atoiAll s.data.toList = .ok v) (w : World) :
    Calls Tryz.prog 121 #[.string s] w fun e w' => e = .returned (.tuple #[.int .i64 v, .nilIface]) ∧ (w' = w ∨ ∃ t, w' = Lib.bytesWorld w 5 t) := Any.strconv_Atoi_ok Tryz.laysC172 s hmax v h w
open Go.RowKit in
theorem Tryz.strconv_Atoi_syntax_var (s : ByteArray) (hlim : s.size ≤ 281474976710656) (h : Lib.atoiAll s.data.toList = .«syntax») (tp : TypeId) (p : Value) (w : World) (hvar : w.var? Tryz.prog "strconv.ErrSyntax" = some #[.iface tp p]) :
    Calls Tryz.prog 121 #[.string s] w fun e w' => ∃ N, e = .returned (.tuple #[.int .i64 0, .iface 178 (.pointer (some ⟨N, 0, none⟩))]) ∧ w.heap.size ≤ N ∧ w'.heap[N]? = some (.cells #[.string ⟨#[65, 116, 111, 105]⟩, .string s, .iface tp p] 189 (0, 0)) ∧ Below w.heap.size w w' := Any.strconv_Atoi_syntax_var Tryz.laysC172 s hlim h tp p w hvar
open Go.RowKit in
theorem Tryz.strconv_Atoi_range_var (s : ByteArray) (hlim : s.size ≤ 281474976710656) (h : Lib.atoiAll s.data.toList = .range) (tp : TypeId) (p : Value) (w : World) (hvar : w.var? Tryz.prog "strconv.ErrRange" = some #[.iface tp p]) :
    Calls Tryz.prog 121 #[.string s] w fun e w' => ∃ N, e = .returned (.tuple #[.int .i64 (Lib.atoiSat s.data.toList), .iface 178 (.pointer (some ⟨N, 0, none⟩))]) ∧ w.heap.size ≤ N ∧ w'.heap[N]? = some (.cells #[.string ⟨#[65, 116, 111, 105]⟩, .string s, .iface tp p] 189 (0, 0)) ∧ Below w.heap.size w w' := Any.strconv_Atoi_range_var Tryz.laysC172 s hlim h tp p w hvar
def Tryz.lays217_ren : Go.Shelf.Ren := ⟨fun | 217 => 127 | 266 => 141 | n => n, fun | 9 => 9 | 5 => 5 | 3 => 3 | n => n, fun | n => n⟩
theorem Tryz.lays217 : Go.Proofs.Lays.n217 Tryz.prog Tryz.lays217_ren := {
  mixed := by kernel_rfl
  f217 := Tryz.func127.trans (congrArg some (by kernel_rfl))
  f266 := Tryz.func141.trans (congrArg some (by kernel_rfl))
  t3 := Tryz.underlying3
  a3 := Tryz.isAgg3
  z3 := Tryz.sizeOf3
  v3 := Tryz.zeroValue3
  t5 := Tryz.underlying5
  a5 := Tryz.isAgg5
  z5 := Tryz.sizeOf5
  v5 := Tryz.zeroValue5
  t9 := Tryz.underlying9
  a9 := Tryz.isAgg9
  z9 := Tryz.sizeOf9
  v9 := Tryz.zeroValue9 }
open Go.RowKit Go.Lib in
/-- internal/stringslite.IndexByte (what strings.IndexByte calls): IT RETURNS 'Lib.indexByte s c'; the world is as it was. (LAID: no walk: one application.) -/
theorem Tryz.stringslite_IndexByte (s : ByteArray) (c : Int) (w : World) :
    Calls Tryz.prog 127 #[.string s, .int .u8 c] w fun e w' => e = .returned (.int .i64 (Lib.indexByte s.data.toList c.toNat.toUInt8)) ∧ w' = w := Any.stringslite_IndexByte Tryz.lays217 s c w
def Tryz.lays190_ren : Go.Shelf.Ren := ⟨fun | 190 => 59 | 125 => 96 | 258 => 95 | 128 => 116 | 129 => 117 | 302 => 107 | 303 => 108 | 304 => 109 | 305 => 110 | 306 => 111 | 307 => 112 | 308 => 113 | 309 => 114 | 310 => 115 | 333 => 131 | 329 => 132 | 330 => 133 | 334 => 134 | 335 => 135 | 336 => 136 | 344 => 143 | n => n, fun | 31 => 40 | 9 => 9 | 3 => 3 | 46 => 126 | 0 => 0 | 51 => 151 | 53 => 153 | 4 => 4 | 183 => 144 | 182 => 143 | 131 => 148 | 5 => 5 | 218 => 163 | 222 => 167 | 228 => 172 | 229 => 173 | n => n, fun | n => n⟩
theorem Tryz.lays190 : Go.Proofs.Lays.n190 Tryz.prog Tryz.lays190_ren := {
  mixed := by kernel_rfl
  f125 := Tryz.func96.trans (congrArg some (by kernel_rfl))
  f128 := Tryz.func116.trans (congrArg some (by kernel_rfl))
  f129 := Tryz.func117.trans (congrArg some (by kernel_rfl))
  f190 := Tryz.func59.trans (congrArg some (by kernel_rfl))
  f258 := Tryz.func95.trans (congrArg some (by kernel_rfl))
  f302 := Tryz.func107.trans (congrArg some (by kernel_rfl))
  f303 := Tryz.func108.trans (congrArg some (by kernel_rfl))
  f304 := Tryz.func109.trans (congrArg some (by kernel_rfl))
  f305 := Tryz.func110.trans (congrArg some (by kernel_rfl))
  f306 := Tryz.func111.trans (congrArg some (by kernel_rfl))
  f307 := Tryz.func112.trans (congrArg some (by kernel_rfl))
  f308 := Tryz.func113.trans (congrArg some (by kernel_rfl))
  f309 := Tryz.func114.trans (congrArg some (by kernel_rfl))
  f310 := Tryz.func115.trans (congrArg some (by kernel_rfl))
  f329 := Tryz.func132.trans (congrArg some (by kernel_rfl))
  f330 := Tryz.func133.trans (congrArg some (by kernel_rfl))
  f333 := Tryz.func131.trans (congrArg some (by kernel_rfl))
  f334 := Tryz.func134.trans (congrArg some (by kernel_rfl))
  f335 := Tryz.func135.trans (congrArg some (by kernel_rfl))
  f336 := Tryz.func136.trans (congrArg some (by kernel_rfl))
  f344 := Tryz.func143.trans (congrArg some (by kernel_rfl))
  t0 := Tryz.underlying0
  a0 := Tryz.isAgg0
  z0 := Tryz.sizeOf0
  v0 := Tryz.zeroValue0
  t3 := Tryz.underlying3
  a3 := Tryz.isAgg3
  z3 := Tryz.sizeOf3
  v3 := Tryz.zeroValue3
  t4 := Tryz.underlying4
  a4 := Tryz.isAgg4
  z4 := Tryz.sizeOf4
  v4 := Tryz.zeroValue4
  t5 := Tryz.underlying5
  a5 := Tryz.isAgg5
  z5 := Tryz.sizeOf5
  v5 := Tryz.zeroValue5
  t9 := Tryz.underlying9
  a9 := Tryz.isAgg9
  z9 := Tryz.sizeOf9
  v9 := Tryz.zeroValue9
  t31 := Tryz.underlying40
  a31 := Tryz.isAgg40
  z31 := Tryz.sizeOf40
  v31 := Tryz.zeroValue40
  t46 := Tryz.underlying126
  a46 := Tryz.isAgg126
  z46 := Tryz.sizeOf126
  v46 := Tryz.zeroValue126
  t51 := Tryz.underlying151
  a51 := Tryz.isAgg151
  z51 := Tryz.sizeOf151
  v51 := Tryz.zeroValue151
  t53 := Tryz.underlying153
  a53 := Tryz.isAgg153
  z53 := Tryz.sizeOf153
  v53 := Tryz.zeroValue153
  t131 := Tryz.underlying148
  a131 := Tryz.isAgg148
  z131 := Tryz.sizeOf148
  v131 := Tryz.zeroValue148
  t182 := Tryz.underlying143
  a182 := Tryz.isAgg143
  z182 := Tryz.sizeOf143
  v182 := Tryz.zeroValue143
  t183 := Tryz.underlying144
  a183 := Tryz.isAgg144
  z183 := Tryz.sizeOf144
  v183 := Tryz.zeroValue144
  t218 := Tryz.underlying163
  a218 := Tryz.isAgg163
  z218 := Tryz.sizeOf163
  v218 := Tryz.zeroValue163
  t222 := Tryz.underlying167
  a222 := Tryz.isAgg167
  z222 := Tryz.sizeOf167
  v222 := Tryz.zeroValue167
  t228 := Tryz.underlying172
  a228 := Tryz.isAgg172
  z228 := Tryz.sizeOf172
  v228 := Tryz.zeroValue172
  t229 := Tryz.underlying173
  a229 := Tryz.isAgg173
  z229 := Tryz.sizeOf173
  v229 := Tryz.zeroValue173 }
open Go.Sort Go.RowKit in
theorem Tryz.slices_Sort_string (blk off cap : Nat) (ss : List (List UInt8)) (w : World) (hH : Holds encStr w blk off ss.toArray) (hblk : blk < w.heap.size) (hsz : ss.length < 4611686018427387904) :
    Calls Tryz.prog 59 #[.slice (some ⟨blk, off, none⟩) ss.length cap] w fun e w' =>
      e = .returned (.tuple #[]) ∧ ∃ n os, w' = grow (putRow encStr (Sort.ahead w n) blk off (ss.mergeSort fun x y => decide (x ≤ y)).toArray) os := Any.slices_Sort_string Tryz.lays190 blk off cap ss w hH hblk hsz
def Tryz.lays206_ren : Go.Shelf.Ren := ⟨fun | 206 => 93 | n => n, fun | 9 => 9 | 4 => 4 | 3 => 3 | n => n, fun | n => n⟩
theorem Tryz.lays206 : Go.Proofs.Lays.n206 Tryz.prog Tryz.lays206_ren := {
  mixed := by kernel_rfl
  f206 := Tryz.func93.trans (congrArg some (by kernel_rfl))
  t3 := Tryz.underlying3
  a3 := Tryz.isAgg3
  z3 := Tryz.sizeOf3
  v3 := Tryz.zeroValue3
  t4 := Tryz.underlying4
  a4 := Tryz.isAgg4
  z4 := Tryz.sizeOf4
  v4 := Tryz.zeroValue4
  t9 := Tryz.underlying9
  a9 := Tryz.isAgg9
  z9 := Tryz.sizeOf9
  v9 := Tryz.zeroValue9 }
open Go.RowKit Go.Lib in
/-- internal/stringslite.HasPrefix (what strings.HasPrefix calls). (LAID: no walk: one application.) -/
theorem Tryz.stringslite_HasPrefix (s p : ByteArray) (w : World) :
    Calls Tryz.prog 93 #[.string s, .string p] w fun e w' => e = .returned (.bool (Lib.hasPrefix s.data.toList p.data.toList)) ∧ w' = w := Any.stringslite_HasPrefix Tryz.lays206 s p w
def Tryz.lays99_ren : Go.Shelf.Ren := ⟨fun | 99 => 57 | 206 => 93 | n => n, fun | 9 => 9 | 4 => 4 | 3 => 3 | n => n, fun | n => n⟩
theorem Tryz.lays99 : Go.Proofs.Lays.n99 Tryz.prog Tryz.lays99_ren := {
  mixed := by kernel_rfl
  f99 := Tryz.func57.trans (congrArg some (by kernel_rfl))
  f206 := Tryz.func93.trans (congrArg some (by kernel_rfl))
  t3 := Tryz.underlying3
  a3 := Tryz.isAgg3
  z3 := Tryz.sizeOf3
  v3 := Tryz.zeroValue3
  t4 := Tryz.underlying4
  a4 := Tryz.isAgg4
  z4 := Tryz.sizeOf4
  v4 := Tryz.zeroValue4
  t9 := Tryz.underlying9
  a9 := Tryz.isAgg9
  z9 := Tryz.sizeOf9
  v9 := Tryz.zeroValue9 }
open Go.RowKit Go.Lib in
/-- strings.HasPrefix: "HasPrefix reports whether the string s begins with prefix.": IT RETURNS 'Lib.hasPrefix s prefix'; the world is as it was. (LAID: no walk: one application.) -/
theorem Tryz.strings_HasPrefix (s p : ByteArray) (w : World) :
    Calls Tryz.prog 57 #[.string s, .string p] w fun e w' => e = .returned (.bool (Lib.hasPrefix s.data.toList p.data.toList)) ∧ w' = w := Any.strings_HasPrefix Tryz.lays99 s p w
open Go.RowKit Go.Sort in
/-- .. and plain. (LAID: no walk: one application.) -/
theorem Tryz.slices_Sort_string_none (p : Option Addr) (cap : Nat) (w : World) :
    Calls Tryz.prog 59 #[.slice p 0 cap] w fun e w' => e = .returned (.tuple #[]) ∧ w' = w := Any.slices_Sort_string_none Tryz.lays190 p cap w
end Go.Proofs
/- world: cells -/
namespace Go.Proofs.YtkaikhcpcbjkcaaGreatDoor
open Go.RowKit M
set_option linter.unusedVariables false
theorem keysStr : KeyOk Tryz.prog 9 strK := keyOk_str Tryz.underlying9
theorem clone0 {w : World} {As : List Th} (hS : Sat w As) (s : Bs) (hs : s.length ≤ 281474976710656) : Calls Tryz.prog 94 #[strV s] w (Ret fun v w' => v = strV s ∧ Sat w' As) :=
  calls_below hS (Tryz.stringslite_Clone ⟨s.toArray⟩ w (by simpa [ByteArray.size] using hs))
theorem clone_sp {w : World} {F : Th} (hS : Sat w [F]) (s : Bs) (hs : s.length ≤ 281474976710656) :
    Calls Tryz.prog 58 #[strV s] w (Ret fun v w' => v = strV s ∧ Sat w' [F]) := by
 refine calls_enter Tryz.func58 rfl Tryz.ntmps58 rfl ?_
 refine wc_seq (wc_region (wl_assign rfl rfl (wl_nil (qs_seq (wc_seq (wc_region (wl_move rfl rfl ?_)))))))
 have hC1 := hS.split [] [false] rfl; dsimp only [selF, pickA, nthA, List.cons_append, List.nil_append] at hC1
 refine wl_call cal_94 rfl (clone0 hC1 s hs) rfl ?_
 rintro e w1 ⟨_, rfl, rfl, hS1⟩; refine ⟨_, rfl, ?_⟩
 replace hS1 := hS1.join rfl; dsimp only [List.dropLast, List.cons_append, List.nil_append] at hS1; clear hC1
 refine wl_assign rfl rfl (wl_nil (qs_seq (wc_ret ?_)))
 refine fin1 (.inr rfl) rfl rfl ?_
 exact ⟨_, rfl, rfl, hS1⟩
def emptyW : WS := ⟨fun _ => [], fun _ _ => none, fun _ => [], 0⟩
theorem cellsG_empty : cellsG (fun _ => []) = fun _ => none := by funext k; simp [cellsG]
theorem new_shut {w : World} {p a b c : Nat} {F : Th} (h : Sat w [blkT p [.map (some a), .map (some b), .map (some c), intV 0], mapT strK c (fun _ => none), mapT strK b (fun _ => none), mapT strK a (fun _ => none), F]) : Sat w [worldT p emptyW, F] := by
  refine worldT_shut ⟨a, b, c⟩ ⟨fun n p s h => by cases h⟩ ?_
  have h1 := h.pull 2 rfl; dsimp only [List.eraseIdx] at h1
  have h2 : Sat w (mapT strK b (namesG []) :: starL ([].map (thOf emptyW.objs)) :: _) := (Sat.fold (As := []) h1).perm (List.Perm.swap _ _ _)
  have h3 := objsT_shut [] ⟨by simp, fun n => by simp [emptyW]⟩ h2
  have h4 := h3.reorder [1, 3, 0, 2, 4] rfl; dsimp only [pickA, nthA] at h4
  show Sat w [blkT p _, mapT strK a (cellsG (fun _ => [])), objsT b _, mapT strK c (cellsG (fun _ => [])), F]
  rw [cellsG_empty]; exact h4
theorem new_sp {w : World} {F : Th} (hS : Sat w [F]) :
    Calls Tryz.prog 20 #[] w (Ret fun v w' => ∃ p, v = ptrV p 0 ∧ Sat w' [worldT p emptyW, F]) := by
 refine calls_enter Tryz.func20 rfl Tryz.ntmps20 rfl ?_
 refine wc_seq (wc_region (wl_assign rfl rfl (wl_nil (qs_seq (wc_seq (wc_region ?_))))))
 refine wl_makeMap strK hS rfl ?_
 intro b1 w1 hS1
 refine wl_makeMap strK hS1 rfl ?_
 intro b2 w2 hS2
 clear hS1
 refine wl_makeMap strK hS2 rfl ?_
 intro b3 w3 hS3
 clear hS2
 refine wl_buildS rfl pl_93_0_1_2 asz_93 zr_93 rfl rfl ?_
 refine wl_box hS3 rfl rfl rfl ?_
 intro b4 w4 hS4
 clear hS3
 refine wl_assign rfl rfl (wl_nil (qs_seq (wc_ret ?_)))
 refine fin1 (.inr rfl) rfl rfl ?_
 exact ⟨_, rfl, _, rfl, new_shut hS4⟩
theorem get_sp {w : World} {p : Nat} {W : WS} {F : Th} (hS : Sat w [worldT p W, F]) (k : Bs) :
    Calls Tryz.prog 16 #[ptrV p 0, strV k] w (Ret fun v w' => v = strV (W.cells k) ∧ Sat w' [worldT p W, F]) := by
 obtain ⟨LL, hI, hS⟩ := worldT_open hS
 refine calls_enter Tryz.func16 rfl Tryz.ntmps16 rfl ?_
 refine wc_seq (wc_region (wl_assign rfl rfl (wl_nil (qs_seq (wc_seq (wc_region (wl_move rfl rfl (wl_nilCheck rfl rfl ?_))))))))
 refine wl_fieldAddr rfl fo_93_0 rfl ?_
 refine wl_load rfl ag_89 (by first | assumption | exact hS.cell 0 rfl rfl) rfl ?_
 refine wl_move rfl rfl ?_
 refine wl_lookup 1 hS keysStr Tryz.underlying89 rfl rfl rfl zr_9 (cellsG_get W.cells k) rfl ?_
 refine wl_assign rfl rfl (wl_nil (qs_seq (wc_ret ?_)))
 refine fin1 (.inr rfl) rfl rfl ?_
 exact ⟨_, rfl, rfl, worldT_shut LL hI hS⟩
def putS (W : WS) (k x : Bs) : WS := { W with cells := updC W.cells k x }
theorem put_sp {w : World} {p : Nat} {W : WS} {F : Th} (hS : Sat w [worldT p W, F]) (k x : Bs) (hk : k.length ≤ 281474976710656) (hv0 : x.length ≤ 281474976710656) :
    Calls Tryz.prog 23 #[ptrV p 0, strV k, strV x] w (Ret fun v w' => v = .tuple #[] ∧ Sat w' [worldT p (putS W k x), F]) := by
 obtain ⟨LL, hI, hS⟩ := worldT_open hS
 refine calls_enter Tryz.func23 rfl Tryz.ntmps23 rfl ?_
 refine wc_seq (wc_seq (wc_region (wl_move rfl rfl ?_)))
 refine wl_eqlS rfl rfl rfl ?_
 refine wl_nil (qs_seq ?_)
 refine wc_condD rfl (fun h1 => ?_) (fun h1 => ?_)
 ·have hv : x = [] := h1
  refine wc_seq (wc_region (wl_move rfl rfl (wl_nilCheck rfl rfl ?_)))
  refine wl_fieldAddr rfl fo_93_0 rfl ?_
  refine wl_load rfl ag_89 (by first | assumption | exact hS.cell 0 rfl rfl) rfl ?_
  refine wl_move rfl rfl ?_
  refine wl_delete (k := k) 1 hS keysStr Tryz.underlying89 rfl rfl rfl rfl ?_
  intro w2 hS2; dsimp only [List.set] at hS2
  refine wl_nil (qs_seq (wc_ret (qs_then_ret ?_)))
  refine fin0 (.inr rfl) rfl ?_
  exact ⟨_, rfl, rfl, worldT_shut LL hI (by rw [show (putS W k x).cells = updC W.cells k [] by rw [putS, hv], ← cellsG_del]; exact hS2)⟩
 have hv : x ≠ [] := h1
 refine wc_skip (qs_seq ?_)
 have hS3 := hS.drew
 refine wc_draw [0, 1, 2, 3, 4, 6, 5, 7, 8] [5, 7, 8] mix (by kernel_rfl) ?_
 refine vc_p rfl rfl rfl (fun _ => (ev_move rfl)) ?_
 refine vc_p rfl rfl rfl (fun _ => (ev_nilCheck rfl)) ?_
 refine vc_p rfl rfl rfl (fun _ => (ev_fieldAddr rfl fo_93_0)) ?_
 refine vc_q rfl rfl rfl (ev_load rfl ag_89 (by first | assumption | exact hS3.cell 0 rfl rfl)) ?_
 refine vc_p rfl rfl rfl (fun _ => (ev_move rfl)) ?_
 refine vc_p rfl rfl rfl (fun _ => (ev_move rfl)) ?_
 refine vc_s rfl rfl rfl rfl rfl rfl ?_
 have hC4 := hS3.split [] [false, false, false, false, false] rfl; dsimp only [selF, pickA, nthA, List.cons_append, List.nil_append] at hC4
 refine wl_call cal_58 rfl (clone_sp hC4 _ (by assumption)) rfl ?_
 rintro e w4 ⟨_, rfl, rfl, hS4⟩; refine ⟨_, rfl, ?_⟩
 replace hS4 := hS4.join rfl; dsimp only [List.dropLast, List.cons_append, List.nil_append] at hS4; clear hC4
 clear hS3
 refine vc_e (.cons (.inl ⟨rfl, (ev_load rfl ag_89 (by first | assumption | exact hS4.cell 0 rfl rfl))⟩) .nil) ?_
 refine vc_s rfl rfl rfl rfl rfl rfl ?_
 have hC5 := hS4.split [] [false, false, false, false, false] rfl; dsimp only [selF, pickA, nthA, List.cons_append, List.nil_append] at hC5
 refine wl_call cal_58 rfl (clone_sp hC5 _ (by assumption)) rfl ?_
 rintro e w5 ⟨_, rfl, rfl, hS5⟩; refine ⟨_, rfl, ?_⟩
 replace hS5 := hS5.join rfl; dsimp only [List.dropLast, List.cons_append, List.nil_append] at hS5; clear hC5
 clear hS4
 refine vc_e (.cons (.inl ⟨rfl, (ev_load rfl ag_89 (by first | assumption | exact hS5.cell 0 rfl rfl))⟩) .nil) ?_
 refine vc_s rfl rfl rfl rfl rfl rfl ?_
 first | refine wl_mapUpdate (k := k) 1 hS5 keysStr Tryz.underlying89 rfl rfl rfl rfl ?_ | refine wl_mapUpdate (k := k) 3 hS5 keysStr Tryz.underlying89 rfl rfl rfl rfl ?_
 intro w6 hS6; dsimp only [List.set] at hS6
 clear hS5
 refine vc_e0 (.skip (by kernel_rfl) .nil) ?_
 refine VC.nil ?_
 refine fin0 (.inl rfl) rfl ?_
 exact ⟨_, rfl, rfl, worldT_shut LL hI (by rw [show (putS W k x).cells = updC W.cells k x from rfl, ← cellsG_put hv]; exact hS6)⟩
end Go.Proofs.YtkaikhcpcbjkcaaGreatDoor
