/- The references 01 (numbers as text) and 15 (cells in order), in plain data; rules for strings in order and for division of numbers that are not positive. Conditions: each lemma's own hypotheses. -/
import Derived.Test.YtcbdclhoekokpaaGreatDoorWire
import Derived.Sort.Walk0
namespace Go.Proofs.YtcbdclhoekokpaaGreatDoor
open Go.RowKit M

section
variable {P : Program} {n : Nat} {ops : Array Oper} {Q : Exit → Act → World → Prop} {rest : List Oper} {L : Env} {w : World} {d : Nat} {ty : TypeId} {pos : String} {aft : Array Edge} {x y : Operand} {t t2 : TypeId}
theorem wl_quoN {a b : Int} (hx : M.look L x = some (.int .i64 a)) (hy : M.look L y = some (.int .i64 b)) (h0 : a ≤ 0) (hb : 0 < b) (ha : -9223372036854775808 ≤ a) (hd : Nat.blt d n = true) (hk : wl P n ops Q rest ((d, .int .i64 (-(-a / b))) :: L) w) : wl P n ops Q (⟨some d, .binOp .quo t x y t2, ty, pos, aft, none⟩ :: rest) L w :=
  wl_val hd (fun ρ hρ => by
    have hb' : b ≠ 0 := by omega
    have h3 : 0 ≤ -a / b := Int.ediv_nonneg (by omega) (by omega)
    have h4 : -a / b ≤ -a := Int.ediv_le_self b (by omega)
    have h5 : a.tdiv b = -(-a / b) := by
      have h7 : (-a).tdiv b = -(a.tdiv b) := Int.neg_tdiv a b
      rw [Int.tdiv_eq_ediv_of_nonneg (show 0 ≤ -a by omega)] at h7
      generalize a.tdiv b = q at h7 ⊢
      generalize -a / b = q2 at h7 ⊢
      omega
    have e : IntKind.i64.wrap (a.tdiv b) = -(-a / b) := by rw [h5]; exact wrap64 (by omega) (by omega)
    simp [execOp, hρ _ _ hx, hρ _ _ hy, eqGuard, binOp, Op.intDiv, hb', e]) hk
theorem wl_remN {a b : Int} (hx : M.look L x = some (.int .i64 a)) (hy : M.look L y = some (.int .i64 b)) (h0 : a ≤ 0) (hb : 0 < b) (hd : Nat.blt d n = true) (hk : wl P n ops Q rest ((d, .int .i64 (-(-a % b))) :: L) w) : wl P n ops Q (⟨some d, .binOp .rem t x y t2, ty, pos, aft, none⟩ :: rest) L w :=
  wl_val hd (fun ρ hρ => by
    have hb' : b ≠ 0 := by omega
    have e : a.tmod b = -(-a % b) := by
      have h7 : (-a).tmod b = -(a.tmod b) := Int.neg_tmod a b
      rw [Int.tmod_eq_emod_of_nonneg (show 0 ≤ -a by omega)] at h7
      generalize a.tmod b = q at h7 ⊢
      generalize -a % b = q2 at h7 ⊢
      omega
    simp [execOp, hρ _ _ hx, hρ _ _ hy, eqGuard, binOp, Op.intDiv, hb', e]) hk
theorem wl_negW {a : Int} (hx : M.look L x = some (.int .i64 a)) (hd : Nat.blt d n = true) (hk : wl P n ops Q rest ((d, .int .i64 (IntKind.i64.wrap (-a))) :: L) w) : wl P n ops Q (⟨some d, .unOp .neg t x, ty, pos, aft, none⟩ :: rest) L w :=
  wl_val hd (fun ρ hρ => by simp [execOp, hρ _ _ hx, Op.unary, Op.intArith]) hk
theorem ev_makeIface {x : Operand} {t : TypeId} {v : Value} (ht : notIface P t = true) (hx : M.look L x = some v) : Ev P L w ⟨some d, .makeInterface t x, ty, pos, aft, none⟩ (.iface t v) := fun ρ hρ => by
    unfold notIface at ht
    cases hu : P.underlying t with
    | none => rw [hu] at ht; cases ht
    | some dd =>
      rw [hu] at ht
      simp only [execOp, hρ _ _ hx, Instr.makeInterface]
      cases dd <;> simp [run_underlying hu] <;> simp at ht
theorem ev_lssS {s u : Bs} (hx : M.look L x = some (strV s)) (hy : M.look L y = some (strV u)) : Ev P L w ⟨some d, .binOp .lss t x y t2, ty, pos, aft, none⟩ (.bool (decide (s < u))) := fun ρ hρ => by simp [execOp, hρ _ _ hx, hρ _ _ hy, eqGuard, binOp, Op.stringOp, toList_mk, bytesLess_eq]
theorem wl_lssS {s u : Bs} (hx : M.look L x = some (strV s)) (hy : M.look L y = some (strV u)) (hd : Nat.blt d n = true) (hk : wl P n ops Q rest ((d, .bool (decide (s < u))) :: L) w) : wl P n ops Q (⟨some d, .binOp .lss t x y t2, ty, pos, aft, none⟩ :: rest) L w := wl_val hd (ev_lssS hx hy) hk
theorem ev_gtrS {s u : Bs} (hx : M.look L x = some (strV s)) (hy : M.look L y = some (strV u)) : Ev P L w ⟨some d, .binOp .gtr t x y t2, ty, pos, aft, none⟩ (.bool (decide (u < s))) := fun ρ hρ => by
  have e : (!(decide (s < u) || (s == u))) = decide (u < s) := by
    rw [Bool.eq_iff_iff]
    simp only [Bool.not_eq_true', Bool.or_eq_false_iff, decide_eq_false_iff_not, beq_eq_false_iff_ne, decide_eq_true_eq]
    constructor
    · rintro ⟨h1, h2⟩
      exact Decidable.byContradiction fun q => h2 (List.le_antisymm (List.not_lt.1 q) (List.not_lt.1 h1))
    · intro h
      exact ⟨fun q => List.lt_irrefl _ (List.lt_trans h q), fun q => by subst q; exact List.lt_irrefl _ h⟩
  simp [execOp, hρ _ _ hx, hρ _ _ hy, eqGuard, binOp, Op.stringOp, toList_mk, bytesLess_eq]
  simpa using e
theorem wl_gtrS {s u : Bs} (hx : M.look L x = some (strV s)) (hy : M.look L y = some (strV u)) (hd : Nat.blt d n = true) (hk : wl P n ops Q rest ((d, .bool (decide (u < s))) :: L) w) : wl P n ops Q (⟨some d, .binOp .gtr t x y t2, ty, pos, aft, none⟩ :: rest) L w := wl_val hd (ev_gtrS hx hy) hk
end

/-! ### numbers back from text, as the reference does it -/
theorem wrap_in (a : Int) : inI (IntKind.i64.wrap a) := by
  have h : IntKind.i64.wrap a = (a + 9223372036854775808) % 18446744073709551616 - 9223372036854775808 := by
    simp [IntKind.wrap, IntKind.signed, IntKind.bits]; split <;> omega
  rw [h]; unfold inI; omega
def backS (n : Int) (l : Bs) : Int := l.foldl (fun n (c : UInt8) => IntKind.i64.wrap (IntKind.i64.wrap (10 * n) - ((c.toNat : Int) - 48))) n
theorem backS_in (l : Bs) : inI (backS 0 l) := by
  rcases List.eq_nil_or_concat l with rfl | ⟨r, c, rfl⟩
  · unfold backS inI; simp
  · unfold backS; rw [List.concat_eq_append, List.foldl_append]; exact wrap_in _
theorem backS_snoc (l : Bs) (c : UInt8) : backS 0 (l ++ [c]) = IntKind.i64.wrap (IntKind.i64.wrap (10 * backS 0 l) - ((c.toNat : Int) - 48)) := by
  simp [backS, List.foldl_append]
theorem back_digits (u : Nat) (h : u ≤ 9223372036854775808) : backS 0 (Lib.decDigits u) = -(u : Int) := by
  induction u using Nat.strongRecOn with
  | _ u ih =>
    rw [Lib.decDigits]
    split
    · rename_i hu
      have e : (UInt8.ofNat (48 + u)).toNat = 48 + u := by simp; omega
      simp only [backS, List.foldl_cons, List.foldl_nil, e]
      rw [wrap64 (a := 10 * 0) (by omega) (by omega), wrap64 (by omega) (by omega)]; omega
    · rename_i hu
      have e : (UInt8.ofNat (48 + u % 10)).toNat = 48 + u % 10 := by simp; omega
      rw [backS_snoc, ih (u / 10) (by omega) (by omega), e, wrap64 (a := 10 * -((u / 10 : Nat) : Int)) (by omega) (by omega), wrap64 (by omega) (by omega)]
      omega
def fromB (s : Bs) : Nat := if s[0]? = some 45 then 1 else 0
def backV (s : Bs) : Int := if fromB s = 0 then IntKind.i64.wrap (-(backS 0 s)) else backS 0 (s.drop 1)
theorem fromB_itoa {n : Int} : fromB (Lib.itoa n) = if n < 0 then 1 else 0 := by
  by_cases hn : n < 0
  · obtain ⟨u, rfl⟩ : ∃ u : Nat, n = -(u : Int) := ⟨n.natAbs, by omega⟩
    rw [Lib.itoa_neg u (by omega), if_pos hn]; rfl
  · obtain ⟨u, rfl⟩ : ∃ u : Nat, n = u := ⟨n.toNat, by omega⟩
    rw [Lib.itoa_nonneg, if_neg hn]
    unfold fromB
    rw [if_neg]
    intro h
    have := decDigits_digit u 45 (List.mem_of_getElem? h)
    simp at this
theorem backV_itoa {n : Int} (h : inI n) : backV (Lib.itoa n) = n := by
  unfold backV
  rw [fromB_itoa]
  unfold inI at h
  by_cases hn : n < 0
  · rw [if_pos hn, if_neg (by omega)]
    obtain ⟨u, rfl⟩ : ∃ u : Nat, n = -(u : Int) := ⟨n.natAbs, by omega⟩
    rw [Lib.itoa_neg u (by omega), List.drop_succ_cons, List.drop_zero, back_digits u (by omega)]
  · rw [if_neg hn, if_pos rfl]
    obtain ⟨u, rfl⟩ : ∃ u : Nat, n = u := ⟨n.toNat, by omega⟩
    rw [Lib.itoa_nonneg, back_digits u (by omega), wrap64 (by omega) (by omega)]; omega
theorem backV_in (s : Bs) : inI (backV s) := by
  unfold backV; split
  · exact wrap_in _
  · exact backS_in _
/-- from where on the digits stand -/
theorem itoa_digit {n : Int} {j : Nat} {c : UInt8} (hj : fromB (Lib.itoa n) ≤ j) (hc : (Lib.itoa n)[j]? = some c) : 48 ≤ c.toNat ∧ c.toNat ≤ 57 := by
  rw [fromB_itoa] at hj
  by_cases hn : n < 0
  · rw [if_pos hn] at hj
    obtain ⟨u, rfl⟩ : ∃ u : Nat, n = -(u : Int) := ⟨n.natAbs, by omega⟩
    rw [Lib.itoa_neg u (by omega)] at hc
    obtain ⟨k, rfl⟩ : ∃ k, j = k + 1 := ⟨j - 1, by omega⟩
    rw [List.getElem?_cons_succ] at hc
    exact decDigits_digit u c (List.mem_of_getElem? hc)
  · obtain ⟨u, rfl⟩ : ∃ u : Nat, n = u := ⟨n.toNat, by omega⟩
    rw [Lib.itoa_nonneg] at hc
    exact decDigits_digit u c (List.mem_of_getElem? hc)
theorem dig_step {u : Nat} (hu : ¬ u < 10) : Lib.decDigits u = Lib.decDigits (u / 10) ++ [UInt8.ofNat (48 + u % 10)] := by rw [Lib.decDigits, dif_neg hu]
theorem dig_one {u : Nat} (hu : u < 10) : Lib.decDigits u = [UInt8.ofNat (48 + u % 10)] := by rw [Lib.decDigits, dif_pos hu, Nat.mod_eq_of_lt hu]

/-- the first end decides what 'number' reads -/
theorem numP_first {e : UInt8} {least m : Int} {r r' : Bs} {k : Nat} (he : 57 < e.toNat) (hno : ∀ j, j < k → r[j]? ≠ some e) (hk : r[k]? = some e) (h : numP e least r = some (m, r')) : r.take k = Lib.itoa m ∧ r.drop (k + 1) = r' ∧ inI m := by
  obtain ⟨h1, h2, _⟩ := numP_some h
  have hmem : e ∉ Lib.itoa m := fun q => by have := itoa_byte e q; omega
  have hkl : k = (Lib.itoa m).length := by
    rcases Nat.lt_trichotomy k (Lib.itoa m).length with g | g | g
    · rw [h1, List.getElem?_append_left g] at hk
      exact absurd (List.mem_of_getElem? hk) hmem
    · exact g
    · exact absurd (by rw [h1, List.getElem?_append_right (Nat.le_refl _)]; simp) (hno _ g)
  subst hkl
  refine ⟨by rw [h1, List.take_left'] <;> rfl, ?_, h2⟩
  rw [h1, List.drop_append, List.drop_eq_nil_of_le (by omega)]
  simp
theorem numP_far {e : UInt8} {least : Int} {r : Bs} (h : ∀ j, j < 21 → r[j]? ≠ some e) : numP e least r = none := by
  cases hq : numP e least r with
  | none => rfl
  | some x =>
    obtain ⟨m, r'⟩ := x
    obtain ⟨h1, h2, _⟩ := numP_some hq
    have := itoa_len h2
    exact absurd (by rw [h1, List.getElem?_append_right (Nat.le_refl _)]; simp) (h (Lib.itoa m).length (by omega))
theorem numP_back {e : UInt8} {least m : Int} {r : Bs} {k : Nat} (he : 57 < e.toNat) (hk : r[k]? = some e) (hm : inI m) (hl : least ≤ m) (h : r.take k = Lib.itoa m) : numP e least r = some (m, r.drop (k + 1)) := by
  have e1 : r = Lib.itoa m ++ e :: r.drop (k + 1) := by
    have h5 := List.getElem?_eq_some_iff.1 hk
    rw [← h, ← h5.2, List.getElem_cons_drop, List.take_append_drop]
  have := numP_enc (r := r.drop (k + 1)) he hm hl
  rw [← e1] at this
  exact this

/-! ### cells in order -/
structure CellsR (Z : List (Bs × Bs)) (c : Bs → Bs) : Prop where
  sorted : (Z.map (·.1)).Pairwise (· < ·)
  val : ∀ x ∈ Z, x.2 ≠ [] ∧ c x.1 = x.2
  none : ∀ k, k ∉ Z.map (·.1) → c k = []
theorem CellsR.empty : CellsR [] (fun _ => []) := ⟨by simp, by simp, fun _ _ => rfl⟩
def putL (k v : Bs) : Bool → List (Bs × Bs) → List (Bs × Bs)
  | true, [] => []
  | false, [] => [(k, v)]
  | true, x :: r => if x.1 = k then putL k v true r else x :: putL k v true r
  | false, x :: r => if x.1 = k then putL k v false r else if k < x.1 then (k, v) :: x :: putL k v true r else x :: putL k v false r
theorem putL_true (k v : Bs) : ∀ Z, putL k v true Z = Z.filter (fun x => decide (x.1 ≠ k))
  | [] => rfl
  | x :: r => by
    simp only [putL]
    split
    · rename_i h; rw [putL_true k v r, List.filter_cons_of_neg (by simpa using h)]
    · rename_i h; rw [putL_true k v r, List.filter_cons_of_pos (by simpa using h)]
theorem putL_mem (k v : Bs) : ∀ (Z : List (Bs × Bs)) (x : Bs × Bs), x ∈ putL k v false Z ↔ (x ∈ Z ∧ x.1 ≠ k) ∨ x = (k, v)
  | [], x => by simp [putL]
  | y :: r, x => by
    simp only [putL]
    split
    · rename_i h
      rw [putL_mem k v r x, List.mem_cons]
      constructor
      · rintro (⟨a, b⟩ | a)
        · exact .inl ⟨.inr a, b⟩
        · exact .inr a
      · rintro (⟨a | a, b⟩ | a)
        · subst a; exact absurd h b
        · exact .inl ⟨a, b⟩
        · exact .inr a
    · rename_i h
      split
      · rw [putL_true]
        simp only [List.mem_cons, List.mem_filter, decide_eq_true_eq]
        constructor
        · rintro (a | a | ⟨a, b⟩)
          · exact .inr a
          · subst a; exact .inl ⟨.inl rfl, h⟩
          · exact .inl ⟨.inr a, b⟩
        · rintro (⟨a | a, b⟩ | a)
          · exact .inr (.inl a)
          · exact .inr (.inr ⟨a, b⟩)
          · exact .inl a
      · rw [List.mem_cons, putL_mem k v r x, List.mem_cons]
        constructor
        · rintro (a | ⟨a, b⟩ | a)
          · subst a; exact .inl ⟨.inl rfl, h⟩
          · exact .inl ⟨.inr a, b⟩
          · exact .inr a
        · rintro (⟨a | a, b⟩ | a)
          · exact .inl a
          · exact .inr (.inl ⟨a, b⟩)
          · exact .inr (.inr a)
theorem lt_of_ne {a b : Bs} (h : ¬ a < b) (g : a ≠ b) : b < a :=
  Decidable.byContradiction fun q => g (List.le_antisymm (List.not_lt.1 q) (List.not_lt.1 h))
theorem putL_sorted (k v : Bs) : ∀ (Z : List (Bs × Bs)), (Z.map (·.1)).Pairwise (· < ·) → ((putL k v false Z).map (·.1)).Pairwise (· < ·)
  | [], _ => by simp [putL]
  | y :: r, hp => by
    rw [List.map_cons, List.pairwise_cons] at hp
    obtain ⟨h1, h2⟩ := hp
    simp only [putL]
    split
    · exact putL_sorted k v r h2
    · rename_i hne
      split
      · rename_i hlt
        rw [putL_true, List.map_cons, List.map_cons, List.pairwise_cons, List.pairwise_cons]
        have hsub : ∀ a ∈ (r.filter (fun x => decide (x.1 ≠ k))).map (·.1), a ∈ r.map (·.1) := fun a ha => by
          obtain ⟨x, hx, rfl⟩ := List.mem_map.1 ha
          exact List.mem_map.2 ⟨x, (List.mem_filter.1 hx).1, rfl⟩
        refine ⟨fun a ha => ?_, fun a ha => h1 a (hsub a ha), h2.sublist ((List.filter_sublist).map _)⟩
        rcases List.mem_cons.1 ha with rfl | ha
        · exact hlt
        · exact List.lt_trans hlt (h1 a (hsub a ha))
      · rename_i hge
        rw [List.map_cons, List.pairwise_cons]
        refine ⟨fun a ha => ?_, putL_sorted k v r h2⟩
        obtain ⟨x, hx, rfl⟩ := List.mem_map.1 ha
        rcases (putL_mem k v r x).1 hx with ⟨a, _⟩ | a
        · exact h1 _ (List.mem_map.2 ⟨x, a, rfl⟩)
        · subst a; exact lt_of_ne hge (fun e => hne e.symm)
theorem putL_len (k v : Bs) : ∀ (b : Bool) (Z : List (Bs × Bs)), (putL k v b Z).length ≤ Z.length + 1
  | true, [] => by simp [putL]
  | false, [] => by simp [putL]
  | true, x :: r => by
    have := putL_len k v true r
    simp only [putL]; split <;> simp <;> omega
  | false, x :: r => by
    have h1 := putL_len k v false r
    have h2 : (putL k v true r).length ≤ r.length := by rw [putL_true]; exact List.length_filter_le _ _
    simp only [putL]
    split
    · simp; omega
    split
    · simp; omega
    · simp; omega
def putZ (Z : List (Bs × Bs)) (k v : Bs) : List (Bs × Bs) := putL k v (decide (v = [])) Z
theorem CellsR.put {Z : List (Bs × Bs)} {c : Bs → Bs} (h : CellsR Z c) (k v : Bs) : CellsR (putZ Z k v) (updC c k v) := by
  unfold putZ
  by_cases hv : v = []
  · subst hv
    rw [decide_eq_true rfl, putL_true]
    refine ⟨h.sorted.sublist ((List.filter_sublist).map _), fun x hx => ?_, fun j hj => ?_⟩
    · obtain ⟨h1, h2⟩ := List.mem_filter.1 hx
      have h3 := h.val x h1
      refine ⟨h3.1, ?_⟩
      unfold updC; rw [if_neg (by simpa using h2)]; exact h3.2
    · unfold updC
      split
      · rfl
      · rename_i hne
        refine h.none j fun hm => hj ?_
        obtain ⟨x, hx, rfl⟩ := List.mem_map.1 hm
        exact List.mem_map.2 ⟨x, List.mem_filter.2 ⟨hx, by simpa using hne⟩, rfl⟩
  · rw [decide_eq_false hv]
    refine ⟨putL_sorted k v Z h.sorted, fun x hx => ?_, fun j hj => ?_⟩
    · rcases (putL_mem k v Z x).1 hx with ⟨h1, h2⟩ | rfl
      · have h3 := h.val x h1
        refine ⟨h3.1, ?_⟩
        unfold updC; rw [if_neg h2]; exact h3.2
      · exact ⟨hv, by unfold updC; rw [if_pos rfl]⟩
    · unfold updC
      rw [if_neg]
      · refine h.none j fun hm => hj ?_
        obtain ⟨x, hx, rfl⟩ := List.mem_map.1 hm
        by_cases hxk : x.1 = k
        · exact List.mem_map.2 ⟨(k, v), (putL_mem k v Z _).2 (.inr rfl), hxk.symm⟩
        · exact List.mem_map.2 ⟨x, (putL_mem k v Z _).2 (.inl ⟨hx, hxk⟩), rfl⟩
      · rintro rfl
        exact hj (List.mem_map.2 ⟨(j, v), (putL_mem j v Z _).2 (.inr rfl), rfl⟩)
theorem putZ_len (Z : List (Bs × Bs)) (k v : Bs) : (putZ Z k v).length ≤ Z.length + 1 := putL_len k v _ Z
/-- what is in order and has the same members is the same -/
theorem sorted_eq {l0 l : List Bs} (hn : l0.Nodup) (hs : l.Pairwise (· < ·)) (hm : ∀ k, k ∈ l0 ↔ k ∈ l) : sortS l0 = l := by
  have hln : l.Nodup := hs.imp fun h e => by subst e; exact List.lt_irrefl _ h
  have hp : l0.Perm l := (List.perm_ext_iff_of_nodup hn hln).2 hm
  refine List.Perm.eq_of_pairwise (le := fun a b => a ≤ b) (fun a b _ _ h1 h2 => List.le_antisymm h1 h2) ?_ (hs.imp fun h => List.le_of_lt h) ((sortS_perm l0).trans hp)
  have := List.pairwise_mergeSort (le := fun x y : Bs => decide (x ≤ y)) (fun a b c h1 h2 => by simp at h1 h2 ⊢; exact List.le_trans h1 h2) (fun a b => by simp; exact List.le_total a b) l0
  exact this.imp fun h => by simpa using h
end Go.Proofs.YtcbdclhoekokpaaGreatDoor
