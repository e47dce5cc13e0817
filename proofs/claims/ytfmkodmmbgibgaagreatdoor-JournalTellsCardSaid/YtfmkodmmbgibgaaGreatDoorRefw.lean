/- The references 01 (numbers as text) and 15 (cells in order), in plain data; rules for strings in order and for division of numbers that are not positive. Conditions: each lemma's own hypotheses. -/
import Derived.Test.YtfmkodmmbgibgaaGreatDoorCellP
import Derived.Sort.Walk0
import Derived.Test.YtfmkodmmbgibgaaGreatDoorRi
import Derived.Test.YtfmkodmmbgibgaaGreatDoorOp4
import Derived.Test.YtfmkodmmbgibgaaGreatDoorCb
namespace Go.Proofs.YtfmkodmmbgibgaaGreatDoor
open Go.RowKit M
section
variable {P : Program} {n : Nat} {ops : Array Oper} {Q : Exit → Act → World → Prop} {rest : List Oper} {L : Env} {w : World} {d : Nat} {ty : TypeId} {pos : String} {aft : Array Edge} {x y : Operand} {t t2 : TypeId}
theorem wl_quoN {a b : Int} (hx : M.look L x = some (.int .i64 a)) (hy : M.look L y = some (.int .i64 b)) (h0 : a ≤ 0) (hb : 0 < b) (ha : -9223372036854775808 ≤ a) (hd : Nat.blt d n = true) (hk : wl P n ops Q rest ((d, .int .i64 (-(-a / b))) :: L) w) : wl P n ops Q (⟨some d, .binOp .quo t x y t2, ty, pos, aft, none⟩ :: rest) L w :=
  wl_val hd (fun ρ hρ => by
    have hb' : b ≠ 0 := by omega
    have h3 : 0 ≤ -a / b := Int.ediv_nonneg (by omega) (by omega)
    have h4 : -a / b ≤ -a := Int.ediv_le_self b (by omega)
    have h5 : a.tdiv b = -(-a / b) := by
      have h7 : (-a).tdiv b = -(a.tdiv b) := Int.neg_tdiv a b
      rw [Int.tdiv_eq_ediv_of_nonneg (show 0 ≤ -a by omega)] at h7
      generalize a.tdiv b = q at h7 ⊢
      generalize -a / b = q2 at h7 ⊢
      omega
    have e : IntKind.i64.wrap (a.tdiv b) = -(-a / b) := by rw [h5]; exact wrap64 (by omega) (by omega)
    simp [execOp, hρ _ _ hx, hρ _ _ hy, eqGuard, binOp, Op.intDiv, hb', e]) hk
theorem wl_remN {a b : Int} (hx : M.look L x = some (.int .i64 a)) (hy : M.look L y = some (.int .i64 b)) (h0 : a ≤ 0) (hb : 0 < b) (hd : Nat.blt d n = true) (hk : wl P n ops Q rest ((d, .int .i64 (-(-a % b))) :: L) w) : wl P n ops Q (⟨some d, .binOp .rem t x y t2, ty, pos, aft, none⟩ :: rest) L w :=
  wl_val hd (fun ρ hρ => by
    have hb' : b ≠ 0 := by omega
    have e : a.tmod b = -(-a % b) := by
      have h7 : (-a).tmod b = -(a.tmod b) := Int.neg_tmod a b
      rw [Int.tmod_eq_emod_of_nonneg (show 0 ≤ -a by omega)] at h7
      generalize a.tmod b = q at h7 ⊢
      generalize -a % b = q2 at h7 ⊢
      omega
    simp [execOp, hρ _ _ hx, hρ _ _ hy, eqGuard, binOp, Op.intDiv, hb', e]) hk
theorem wl_negW {a : Int} (hx : M.look L x = some (.int .i64 a)) (hd : Nat.blt d n = true) (hk : wl P n ops Q rest ((d, .int .i64 (IntKind.i64.wrap (-a))) :: L) w) : wl P n ops Q (⟨some d, .unOp .neg t x, ty, pos, aft, none⟩ :: rest) L w :=
  wl_val hd (fun ρ hρ => by simp [execOp, hρ _ _ hx, Op.unary, Op.intArith]) hk
end
/-! ### numbers back from text, as the reference does it -/
theorem wrap_in (a : Int) : inI (IntKind.i64.wrap a) := by
  have h : IntKind.i64.wrap a = (a + 9223372036854775808) % 18446744073709551616 - 9223372036854775808 := by
    simp [IntKind.wrap, IntKind.signed, IntKind.bits]; split <;> omega
  rw [h]; unfold inI; omega
def backS (n : Int) (l : Bs) : Int := l.foldl (fun n (c : UInt8) => IntKind.i64.wrap (IntKind.i64.wrap (10 * n) - ((c.toNat : Int) - 48))) n
theorem backS_in (l : Bs) : inI (backS 0 l) := by
  rcases List.eq_nil_or_concat l with rfl | ⟨r, c, rfl⟩
  · unfold backS inI; simp
  · unfold backS; rw [List.concat_eq_append, List.foldl_append]; exact wrap_in _
theorem backS_snoc (l : Bs) (c : UInt8) : backS 0 (l ++ [c]) = IntKind.i64.wrap (IntKind.i64.wrap (10 * backS 0 l) - ((c.toNat : Int) - 48)) := by
  simp [backS, List.foldl_append]
theorem back_digits (u : Nat) (h : u ≤ 9223372036854775808) : backS 0 (Lib.decDigits u) = -(u : Int) := by
  induction u using Nat.strongRecOn with
  | _ u ih =>
    rw [Lib.decDigits]
    split
    · rename_i hu
      have e : (UInt8.ofNat (48 + u)).toNat = 48 + u := by simp; omega
      simp only [backS, List.foldl_cons, List.foldl_nil, e]
      rw [wrap64 (a := 10 * 0) (by omega) (by omega), wrap64 (by omega) (by omega)]; omega
    · rename_i hu
      have e : (UInt8.ofNat (48 + u % 10)).toNat = 48 + u % 10 := by simp; omega
      rw [backS_snoc, ih (u / 10) (by omega) (by omega), e, wrap64 (a := 10 * -((u / 10 : Nat) : Int)) (by omega) (by omega), wrap64 (by omega) (by omega)]
      omega
def fromB (s : Bs) : Nat := if s[0]? = some 45 then 1 else 0
def backV (s : Bs) : Int := if fromB s = 0 then IntKind.i64.wrap (-(backS 0 s)) else backS 0 (s.drop 1)
theorem fromB_itoa {n : Int} : fromB (Lib.itoa n) = if n < 0 then 1 else 0 := by
  by_cases hn : n < 0
  · obtain ⟨u, rfl⟩ : ∃ u : Nat, n = -(u : Int) := ⟨n.natAbs, by omega⟩
    rw [Lib.itoa_neg u (by omega), if_pos hn]; rfl
  · obtain ⟨u, rfl⟩ : ∃ u : Nat, n = u := ⟨n.toNat, by omega⟩
    rw [Lib.itoa_nonneg, if_neg hn]
    unfold fromB
    rw [if_neg]
    intro h
    have := decDigits_digit u 45 (List.mem_of_getElem? h)
    simp at this
theorem backV_itoa {n : Int} (h : inI n) : backV (Lib.itoa n) = n := by
  unfold backV
  rw [fromB_itoa]
  unfold inI at h
  by_cases hn : n < 0
  · rw [if_pos hn, if_neg (by omega)]
    obtain ⟨u, rfl⟩ : ∃ u : Nat, n = -(u : Int) := ⟨n.natAbs, by omega⟩
    rw [Lib.itoa_neg u (by omega), List.drop_succ_cons, List.drop_zero, back_digits u (by omega)]
  · rw [if_neg hn, if_pos rfl]
    obtain ⟨u, rfl⟩ : ∃ u : Nat, n = u := ⟨n.toNat, by omega⟩
    rw [Lib.itoa_nonneg, back_digits u (by omega), wrap64 (by omega) (by omega)]; omega
theorem backV_in (s : Bs) : inI (backV s) := by
  unfold backV; split
  · exact wrap_in _
  · exact backS_in _
/-- from where on the digits stand -/
theorem itoa_digit {n : Int} {j : Nat} {c : UInt8} (hj : fromB (Lib.itoa n) ≤ j) (hc : (Lib.itoa n)[j]? = some c) : 48 ≤ c.toNat ∧ c.toNat ≤ 57 := by
  rw [fromB_itoa] at hj
  by_cases hn : n < 0
  · rw [if_pos hn] at hj
    obtain ⟨u, rfl⟩ : ∃ u : Nat, n = -(u : Int) := ⟨n.natAbs, by omega⟩
    rw [Lib.itoa_neg u (by omega)] at hc
    obtain ⟨k, rfl⟩ : ∃ k, j = k + 1 := ⟨j - 1, by omega⟩
    rw [List.getElem?_cons_succ] at hc
    exact decDigits_digit u c (List.mem_of_getElem? hc)
  · obtain ⟨u, rfl⟩ : ∃ u : Nat, n = u := ⟨n.toNat, by omega⟩
    rw [Lib.itoa_nonneg] at hc
    exact decDigits_digit u c (List.mem_of_getElem? hc)
theorem dig_step {u : Nat} (hu : ¬ u < 10) : Lib.decDigits u = Lib.decDigits (u / 10) ++ [UInt8.ofNat (48 + u % 10)] := by rw [Lib.decDigits, dif_neg hu]
theorem dig_one {u : Nat} (hu : u < 10) : Lib.decDigits u = [UInt8.ofNat (48 + u % 10)] := by rw [Lib.decDigits, dif_pos hu, Nat.mod_eq_of_lt hu]
/-- the first end decides what 'number' reads -/
theorem numP_first {e : UInt8} {least m : Int} {r r' : Bs} {k : Nat} (he : 57 < e.toNat) (hno : ∀ j, j < k → r[j]? ≠ some e) (hk : r[k]? = some e) (h : numP e least r = some (m, r')) : r.take k = Lib.itoa m ∧ r.drop (k + 1) = r' ∧ inI m := by
  obtain ⟨h1, h2, _⟩ := numP_some h
  have hmem : e ∉ Lib.itoa m := fun q => by have := itoa_byte e q; omega
  have hkl : k = (Lib.itoa m).length := by
    rcases Nat.lt_trichotomy k (Lib.itoa m).length with g | g | g
    · rw [h1, List.getElem?_append_left g] at hk
      exact absurd (List.mem_of_getElem? hk) hmem
    · exact g
    · exact absurd (by rw [h1, List.getElem?_append_right (Nat.le_refl _)]; simp) (hno _ g)
  subst hkl
  refine ⟨by rw [h1, List.take_left'] <;> rfl, ?_, h2⟩
  rw [h1, List.drop_append, List.drop_eq_nil_of_le (by omega)]
  simp
theorem numP_far {e : UInt8} {least : Int} {r : Bs} (h : ∀ j, j < 21 → r[j]? ≠ some e) : numP e least r = none := by
  cases hq : numP e least r with
  | none => rfl
  | some x =>
    obtain ⟨m, r'⟩ := x
    obtain ⟨h1, h2, _⟩ := numP_some hq
    have := itoa_len h2
    exact absurd (by rw [h1, List.getElem?_append_right (Nat.le_refl _)]; simp) (h (Lib.itoa m).length (by omega))
theorem numP_back {e : UInt8} {least m : Int} {r : Bs} {k : Nat} (he : 57 < e.toNat) (hk : r[k]? = some e) (hm : inI m) (hl : least ≤ m) (h : r.take k = Lib.itoa m) : numP e least r = some (m, r.drop (k + 1)) := by
  have e1 : r = Lib.itoa m ++ e :: r.drop (k + 1) := by
    have h5 := List.getElem?_eq_some_iff.1 hk
    rw [← h, ← h5.2, List.getElem_cons_drop, List.take_append_drop]
  have := numP_enc (r := r.drop (k + 1)) he hm hl
  rw [← e1] at this
  exact this
/-! ### cells in order -/
structure CellsR (Z : List (Bs × Bs)) (c : Bs → Bs) : Prop where
  sorted : (Z.map (·.1)).Pairwise (· < ·)
  val : ∀ x ∈ Z, x.2 ≠ [] ∧ c x.1 = x.2
  none : ∀ k, k ∉ Z.map (·.1) → c k = []
theorem CellsR.empty : CellsR [] (fun _ => []) := ⟨by simp, by simp, fun _ _ => rfl⟩
def putL (k v : Bs) : Bool → List (Bs × Bs) → List (Bs × Bs)
  | true, [] => []
  | false, [] => [(k, v)]
  | true, x :: r => if x.1 = k then putL k v true r else x :: putL k v true r
  | false, x :: r => if x.1 = k then putL k v false r else if k < x.1 then (k, v) :: x :: putL k v true r else x :: putL k v false r
theorem putL_true (k v : Bs) : ∀ Z, putL k v true Z = Z.filter (fun x => decide (x.1 ≠ k))
  | [] => rfl
  | x :: r => by
    simp only [putL]
    split
    · rename_i h; rw [putL_true k v r, List.filter_cons_of_neg (by simpa using h)]
    · rename_i h; rw [putL_true k v r, List.filter_cons_of_pos (by simpa using h)]
theorem putL_mem (k v : Bs) : ∀ (Z : List (Bs × Bs)) (x : Bs × Bs), x ∈ putL k v false Z ↔ (x ∈ Z ∧ x.1 ≠ k) ∨ x = (k, v)
  | [], x => by simp [putL]
  | y :: r, x => by
    simp only [putL]
    split
    · rename_i h
      rw [putL_mem k v r x, List.mem_cons]
      constructor
      · rintro (⟨a, b⟩ | a)
        · exact .inl ⟨.inr a, b⟩
        · exact .inr a
      · rintro (⟨a | a, b⟩ | a)
        · subst a; exact absurd h b
        · exact .inl ⟨a, b⟩
        · exact .inr a
    · rename_i h
      split
      · rw [putL_true]
        simp only [List.mem_cons, List.mem_filter, decide_eq_true_eq]
        constructor
        · rintro (a | a | ⟨a, b⟩)
          · exact .inr a
          · subst a; exact .inl ⟨.inl rfl, h⟩
          · exact .inl ⟨.inr a, b⟩
        · rintro (⟨a | a, b⟩ | a)
          · exact .inr (.inl a)
          · exact .inr (.inr ⟨a, b⟩)
          · exact .inl a
      · rw [List.mem_cons, putL_mem k v r x, List.mem_cons]
        constructor
        · rintro (a | ⟨a, b⟩ | a)
          · subst a; exact .inl ⟨.inl rfl, h⟩
          · exact .inl ⟨.inr a, b⟩
          · exact .inr a
        · rintro (⟨a | a, b⟩ | a)
          · exact .inl a
          · exact .inr (.inl ⟨a, b⟩)
          · exact .inr (.inr a)
theorem lt_of_ne {a b : Bs} (h : ¬ a < b) (g : a ≠ b) : b < a :=
  Decidable.byContradiction fun q => g (List.le_antisymm (List.not_lt.1 q) (List.not_lt.1 h))
theorem putL_sorted (k v : Bs) : ∀ (Z : List (Bs × Bs)), (Z.map (·.1)).Pairwise (· < ·) → ((putL k v false Z).map (·.1)).Pairwise (· < ·)
  | [], _ => by simp [putL]
  | y :: r, hp => by
    rw [List.map_cons, List.pairwise_cons] at hp
    obtain ⟨h1, h2⟩ := hp
    simp only [putL]
    split
    · exact putL_sorted k v r h2
    · rename_i hne
      split
      · rename_i hlt
        rw [putL_true, List.map_cons, List.map_cons, List.pairwise_cons, List.pairwise_cons]
        have hsub : ∀ a ∈ (r.filter (fun x => decide (x.1 ≠ k))).map (·.1), a ∈ r.map (·.1) := fun a ha => by
          obtain ⟨x, hx, rfl⟩ := List.mem_map.1 ha
          exact List.mem_map.2 ⟨x, (List.mem_filter.1 hx).1, rfl⟩
        refine ⟨fun a ha => ?_, fun a ha => h1 a (hsub a ha), h2.sublist ((List.filter_sublist).map _)⟩
        rcases List.mem_cons.1 ha with rfl | ha
        · exact hlt
        · exact List.lt_trans hlt (h1 a (hsub a ha))
      · rename_i hge
        rw [List.map_cons, List.pairwise_cons]
        refine ⟨fun a ha => ?_, putL_sorted k v r h2⟩
        obtain ⟨x, hx, rfl⟩ := List.mem_map.1 ha
        rcases (putL_mem k v r x).1 hx with ⟨a, _⟩ | a
        · exact h1 _ (List.mem_map.2 ⟨x, a, rfl⟩)
        · subst a; exact lt_of_ne hge (fun e => hne e.symm)
def putZ (Z : List (Bs × Bs)) (k v : Bs) : List (Bs × Bs) := putL k v (decide (v = [])) Z
theorem CellsR.put {Z : List (Bs × Bs)} {c : Bs → Bs} (h : CellsR Z c) (k v : Bs) : CellsR (putZ Z k v) (updC c k v) := by
  unfold putZ
  by_cases hv : v = []
  · subst hv
    rw [decide_eq_true rfl, putL_true]
    refine ⟨h.sorted.sublist ((List.filter_sublist).map _), fun x hx => ?_, fun j hj => ?_⟩
    · obtain ⟨h1, h2⟩ := List.mem_filter.1 hx
      have h3 := h.val x h1
      refine ⟨h3.1, ?_⟩
      unfold updC; rw [if_neg (by simpa using h2)]; exact h3.2
    · unfold updC
      split
      · rfl
      · rename_i hne
        refine h.none j fun hm => hj ?_
        obtain ⟨x, hx, rfl⟩ := List.mem_map.1 hm
        exact List.mem_map.2 ⟨x, List.mem_filter.2 ⟨hx, by simpa using hne⟩, rfl⟩
  · rw [decide_eq_false hv]
    refine ⟨putL_sorted k v Z h.sorted, fun x hx => ?_, fun j hj => ?_⟩
    · rcases (putL_mem k v Z x).1 hx with ⟨h1, h2⟩ | rfl
      · have h3 := h.val x h1
        refine ⟨h3.1, ?_⟩
        unfold updC; rw [if_neg h2]; exact h3.2
      · exact ⟨hv, by unfold updC; rw [if_pos rfl]⟩
    · unfold updC
      rw [if_neg]
      · refine h.none j fun hm => hj ?_
        obtain ⟨x, hx, rfl⟩ := List.mem_map.1 hm
        by_cases hxk : x.1 = k
        · exact List.mem_map.2 ⟨(k, v), (putL_mem k v Z _).2 (.inr rfl), hxk.symm⟩
        · exact List.mem_map.2 ⟨x, (putL_mem k v Z _).2 (.inl ⟨hx, hxk⟩), rfl⟩
      · rintro rfl
        exact hj (List.mem_map.2 ⟨(j, v), (putL_mem j v Z _).2 (.inr rfl), rfl⟩)
end Go.Proofs.YtfmkodmmbgibgaaGreatDoor
/- Closed facts of the program: offsets, sizes, zero values. -/
namespace Go.Proofs.YtfmkodmmbgibgaaGreatDoor
open Go.RowKit M
theorem ag_27 : aggB Tryz.prog 27 = some false := by kernel_rfl
theorem ag_32 : aggB Tryz.prog 32 = some false := by kernel_rfl
theorem ag_34 : aggB Tryz.prog 34 = some true := by kernel_rfl
theorem ag_56 : aggB Tryz.prog 56 = some false := by kernel_rfl
theorem ag_68 : aggB Tryz.prog 68 = some false := by kernel_rfl
theorem ag_71 : aggB Tryz.prog 71 = some false := by kernel_rfl
theorem ag_75 : aggB Tryz.prog 75 = some false := by kernel_rfl
theorem ag_117 : aggB Tryz.prog 117 = some false := by kernel_rfl
theorem ag_118 : aggB Tryz.prog 118 = some false := by kernel_rfl
theorem asz_34 : allSz Tryz.prog 34 = true := by kernel_rfl
theorem asz_58 : allSz Tryz.prog 58 = true := by kernel_rfl
theorem asz_73 : allSz Tryz.prog 73 = true := by kernel_rfl
theorem asz_140 : allSz Tryz.prog 140 = true := by kernel_rfl
theorem asz_143 : allSz Tryz.prog 143 = true := by kernel_rfl
theorem cal_6 : callB Tryz.prog 6 = true := by kernel_rfl
theorem cal_7 : callB Tryz.prog 7 = true := by kernel_rfl
theorem cal_8 : callB Tryz.prog 8 = true := by kernel_rfl
theorem cal_9 : callB Tryz.prog 9 = true := by kernel_rfl
theorem cal_10 : callB Tryz.prog 10 = true := by kernel_rfl
theorem cal_11 : callB Tryz.prog 11 = true := by kernel_rfl
theorem cal_12 : callB Tryz.prog 12 = true := by kernel_rfl
theorem cal_13 : callB Tryz.prog 13 = true := by kernel_rfl
theorem cal_14 : callB Tryz.prog 14 = true := by kernel_rfl
theorem cal_15 : callB Tryz.prog 15 = true := by kernel_rfl
theorem cal_16 : callB Tryz.prog 16 = true := by kernel_rfl
theorem cal_17 : callB Tryz.prog 17 = true := by kernel_rfl
theorem cal_19 : callB Tryz.prog 19 = true := by kernel_rfl
theorem cal_24 : callB Tryz.prog 24 = true := by kernel_rfl
theorem cal_25 : callB Tryz.prog 25 = true := by kernel_rfl
theorem cal_26 : callB Tryz.prog 26 = true := by kernel_rfl
theorem cal_27 : callB Tryz.prog 27 = true := by kernel_rfl
theorem cal_28 : callB Tryz.prog 28 = true := by kernel_rfl
theorem cal_29 : callB Tryz.prog 29 = true := by kernel_rfl
theorem cal_30 : callB Tryz.prog 30 = true := by kernel_rfl
theorem cal_34 : callB Tryz.prog 34 = true := by kernel_rfl
theorem cal_35 : callB Tryz.prog 35 = true := by kernel_rfl
theorem cal_36 : callB Tryz.prog 36 = true := by kernel_rfl
theorem cal_37 : callB Tryz.prog 37 = true := by kernel_rfl
theorem cal_38 : callB Tryz.prog 38 = true := by kernel_rfl
theorem cal_39 : callB Tryz.prog 39 = true := by kernel_rfl
theorem cal_40 : callB Tryz.prog 40 = true := by kernel_rfl
theorem cal_41 : callB Tryz.prog 41 = true := by kernel_rfl
theorem cal_42 : callB Tryz.prog 42 = true := by kernel_rfl
theorem cal_43 : callB Tryz.prog 43 = true := by kernel_rfl
theorem cal_44 : callB Tryz.prog 44 = true := by kernel_rfl
theorem cal_45 : callB Tryz.prog 45 = true := by kernel_rfl
theorem cal_46 : callB Tryz.prog 46 = true := by kernel_rfl
theorem cal_47 : callB Tryz.prog 47 = true := by kernel_rfl
theorem cal_48 : callB Tryz.prog 48 = true := by kernel_rfl
theorem cal_49 : callB Tryz.prog 49 = true := by kernel_rfl
theorem cal_50 : callB Tryz.prog 50 = true := by kernel_rfl
theorem cal_51 : callB Tryz.prog 51 = true := by kernel_rfl
theorem cal_64 : callB Tryz.prog 64 = true := by kernel_rfl
theorem cal_65 : callB Tryz.prog 65 = true := by kernel_rfl
theorem cal_66 : callB Tryz.prog 66 = true := by kernel_rfl
theorem cal_67 : callB Tryz.prog 67 = true := by kernel_rfl
theorem cal_68 : callB Tryz.prog 68 = true := by kernel_rfl
theorem cal_69 : callB Tryz.prog 69 = true := by kernel_rfl
theorem cal_70 : callB Tryz.prog 70 = true := by kernel_rfl
theorem cal_71 : callB Tryz.prog 71 = true := by kernel_rfl
theorem cal_72 : callB Tryz.prog 72 = true := by kernel_rfl
theorem cal_73 : callB Tryz.prog 73 = true := by kernel_rfl
theorem cal_74 : callB Tryz.prog 74 = true := by kernel_rfl
theorem cal_75 : callB Tryz.prog 75 = true := by kernel_rfl
theorem cal_76 : callB Tryz.prog 76 = true := by kernel_rfl
theorem cal_77 : callB Tryz.prog 77 = true := by kernel_rfl
theorem cal_78 : callB Tryz.prog 78 = true := by kernel_rfl
theorem cal_79 : callB Tryz.prog 79 = true := by kernel_rfl
theorem cal_80 : callB Tryz.prog 80 = true := by kernel_rfl
theorem cal_81 : callB Tryz.prog 81 = true := by kernel_rfl
theorem cal_82 : callB Tryz.prog 82 = true := by kernel_rfl
theorem cal_83 : callB Tryz.prog 83 = true := by kernel_rfl
theorem cal_84 : callB Tryz.prog 84 = true := by kernel_rfl
theorem cal_85 : callB Tryz.prog 85 = true := by kernel_rfl
theorem cal_86 : callB Tryz.prog 86 = true := by kernel_rfl
theorem cal_87 : callB Tryz.prog 87 = true := by kernel_rfl
theorem cal_88 : callB Tryz.prog 88 = true := by kernel_rfl
theorem cal_89 : callB Tryz.prog 89 = true := by kernel_rfl
theorem cal_90 : callB Tryz.prog 90 = true := by kernel_rfl
theorem cal_91 : callB Tryz.prog 91 = true := by kernel_rfl
theorem cal_101 : callB Tryz.prog 101 = true := by kernel_rfl
theorem cal_102 : callB Tryz.prog 102 = true := by kernel_rfl
theorem cal_103 : callB Tryz.prog 103 = true := by kernel_rfl
theorem cal_104 : callB Tryz.prog 104 = true := by kernel_rfl
theorem cal_105 : callB Tryz.prog 105 = true := by kernel_rfl
theorem cal_106 : callB Tryz.prog 106 = true := by kernel_rfl
theorem cal_107 : callB Tryz.prog 107 = true := by kernel_rfl
theorem cal_108 : callB Tryz.prog 108 = true := by kernel_rfl
theorem cal_109 : callB Tryz.prog 109 = true := by kernel_rfl
theorem cal_110 : callB Tryz.prog 110 = true := by kernel_rfl
theorem cal_111 : callB Tryz.prog 111 = true := by kernel_rfl
theorem cal_112 : callB Tryz.prog 112 = true := by kernel_rfl
theorem cal_113 : callB Tryz.prog 113 = true := by kernel_rfl
theorem cal_115 : callB Tryz.prog 115 = true := by kernel_rfl
theorem cal_120 : callB Tryz.prog 120 = true := by kernel_rfl
theorem cal_121 : callB Tryz.prog 121 = true := by kernel_rfl
theorem cal_122 : callB Tryz.prog 122 = true := by kernel_rfl
theorem cal_123 : callB Tryz.prog 123 = true := by kernel_rfl
theorem cal_124 : callB Tryz.prog 124 = true := by kernel_rfl
theorem cal_125 : callB Tryz.prog 125 = true := by kernel_rfl
theorem cal_126 : callB Tryz.prog 126 = true := by kernel_rfl
theorem cal_128 : callB Tryz.prog 128 = true := by kernel_rfl
theorem cal_145 : callB Tryz.prog 145 = true := by kernel_rfl
theorem cal_162 : callB Tryz.prog 162 = true := by kernel_rfl
theorem cal_171 : callB Tryz.prog 171 = true := by kernel_rfl
theorem es_22 : elemSz Tryz.prog 22 = some 1 := by kernel_rfl
theorem es_32 : elemSz Tryz.prog 32 = some 2 := by kernel_rfl
theorem es_45 : elemSz Tryz.prog 45 = some 2 := by kernel_rfl
theorem es_112 : elemSz Tryz.prog 112 = some 1 := by kernel_rfl
theorem fo_34_0 : fldOff Tryz.prog 34 0 = some 0 := by kernel_rfl
theorem fo_34_1 : fldOff Tryz.prog 34 1 = some 1 := by kernel_rfl
theorem fo_49_0 : fldOff Tryz.prog 49 0 = some 0 := by kernel_rfl
theorem fo_49_1 : fldOff Tryz.prog 49 1 = some 1 := by kernel_rfl
theorem fo_58_0 : fldOff Tryz.prog 58 0 = some 0 := by kernel_rfl
theorem fo_58_1 : fldOff Tryz.prog 58 1 = some 1 := by kernel_rfl
theorem fo_58_2 : fldOff Tryz.prog 58 2 = some 2 := by kernel_rfl
theorem fo_58_3 : fldOff Tryz.prog 58 3 = some 3 := by kernel_rfl
theorem fo_58_4 : fldOff Tryz.prog 58 4 = some 4 := by kernel_rfl
theorem fo_73_0 : fldOff Tryz.prog 73 0 = some 0 := by kernel_rfl
theorem fo_73_1 : fldOff Tryz.prog 73 1 = some 1 := by kernel_rfl
theorem fo_73_2 : fldOff Tryz.prog 73 2 = some 2 := by kernel_rfl
theorem fo_73_3 : fldOff Tryz.prog 73 3 = some 3 := by kernel_rfl
theorem fo_73_4 : fldOff Tryz.prog 73 4 = some 4 := by kernel_rfl
theorem fo_120_0 : fldOff Tryz.prog 120 0 = some 0 := by kernel_rfl
theorem fo_120_1 : fldOff Tryz.prog 120 1 = some 1 := by kernel_rfl
theorem fo_140_0 : fldOff Tryz.prog 140 0 = some 0 := by kernel_rfl
theorem fo_140_1 : fldOff Tryz.prog 140 1 = some 1 := by kernel_rfl
theorem fo_143_0 : fldOff Tryz.prog 143 0 = some 0 := by kernel_rfl
theorem fo_143_1 : fldOff Tryz.prog 143 1 = some 1 := by kernel_rfl
theorem ifo_34 : (Tryz.prog.info? 34).map (fun i => (i.zero, i.size, i.bytes)) = some (some (.agg #[(.int .i64 0), (.string ⟨#[]⟩)]), 2, 24) := by kernel_rfl
theorem ifz_34 : (Tryz.prog.info? 34).map (fun i => (i.zero, i.size)) = some (some (.agg #[(.int .i64 0), (.string ⟨#[]⟩)]), 2) := by kernel_rfl
theorem ifz_75 : (Tryz.prog.info? 75).map (fun i => (i.zero, i.size)) = some (some .nilFunc, 1) := by kernel_rfl
theorem pl_34_0 : structPl Tryz.prog 34 [0] = some [(0, 1)] := by kernel_rfl
theorem pl_34_0_1 : structPl Tryz.prog 34 [0, 1] = some [(0, 1), (1, 1)] := by kernel_rfl
theorem pl_58_0_1_2 : structPl Tryz.prog 58 [0, 1, 2] = some [(0, 1), (1, 1), (2, 1)] := by kernel_rfl
theorem pl_73_0_1_2_3 : structPl Tryz.prog 73 [0, 1, 2, 3] = some [(0, 1), (1, 1), (2, 1), (3, 1)] := by kernel_rfl
theorem pl_140_0 : structPl Tryz.prog 140 [0] = some [(0, 1)] := by kernel_rfl
theorem pl_143_0 : structPl Tryz.prog 143 [0] = some [(0, 1)] := by kernel_rfl
theorem sz_32 : szOf Tryz.prog 32 = some 1 := by kernel_rfl
theorem sz_34 : szOf Tryz.prog 34 = some 2 := by kernel_rfl
theorem sz_117 : szOf Tryz.prog 117 = some 1 := by kernel_rfl
theorem sz_118 : szOf Tryz.prog 118 = some 1 := by kernel_rfl
theorem zr_3 : zeroOf Tryz.prog 3 = some (some (.int .i64 0)) := by kernel_rfl
theorem zr_9 : zeroOf Tryz.prog 9 = some (some (.string ⟨#[]⟩)) := by kernel_rfl
theorem zr_32 : zeroOf Tryz.prog 32 = some (some (.slice none 0 0)) := by kernel_rfl
theorem zr_34 : zeroOf Tryz.prog 34 = some (some (.agg #[(.int .i64 0), (.string ⟨#[]⟩)])) := by kernel_rfl
theorem zr_58 : zeroOf Tryz.prog 58 = some (some (.agg #[(.pointer none), (.int .i64 0), (.pointer none), (.slice none 0 0), (.bool false)])) := by kernel_rfl
theorem zr_73 : zeroOf Tryz.prog 73 = some (some (.agg #[(.pointer none), (.int .i64 0), (.pointer none), (.map none), (.bool false)])) := by kernel_rfl
theorem zr_120 : zeroOf Tryz.prog 120 = some (some (.agg #[(.pointer none), (.slice none 0 0)])) := by kernel_rfl
theorem zr_140 : zeroOf Tryz.prog 140 = some (some (.agg #[(.string ⟨#[]⟩), (.bool false)])) := by kernel_rfl
theorem zr_143 : zeroOf Tryz.prog 143 = some (some (.agg #[(.string ⟨#[]⟩), (.bool false)])) := by kernel_rfl
end Go.Proofs.YtfmkodmmbgibgaaGreatDoor
/- Arrays in structs: an array as a slice, an element of an array's value; calls of bound methods. Conditions: the rules' own hypotheses. -/
namespace Go.Proofs.YtfmkodmmbgibgaaGreatDoor.M
open Go.RowKit
section
variable {P : Program} {n : Nat} {ops : Array Oper} {Q : Exit → Act → World → Prop} {rest : List Oper} {L : Env} {w : World} {d : Nat} {ty : TypeId} {pos : String} {aft : Array Edge} {As : List Th}
/-- a bound method -/
theorem ev_makeBound {f : Nat} {fs : List Operand} {vs : List Value} (hx : looks L fs = some vs) : Ev P L w ⟨some d, .makeFunc (.func f) fs.toArray #[], ty, pos, aft, none⟩ (.func (.func f) vs.toArray #[]) := fun ρ hρ => by
  have : fs.map ρ = vs := by
    induction fs generalizing vs with
    | nil => simp [looks] at hx; subst hx; rfl
    | cons y ys ih =>
      simp only [looks] at hx
      cases h1 : look L y with
      | none => simp [h1] at hx
      | some u =>
        cases h2 : looks L ys with
        | none => simp [h1, h2] at hx
        | some us => simp [h1, h2] at hx; subst hx; simp [hρ _ _ h1, ih h2]
  simp [execOp, Instr.makeFunc, this]
theorem wl_makeBound {f : Nat} {fs : List Operand} {vs : List Value} (hx : looks L fs = some vs) (hd : Nat.blt d n = true) (hk : wl P n ops Q rest ((d, .func (.func f) vs.toArray #[]) :: L) w) : wl P n ops Q (⟨some d, .makeFunc (.func f) fs.toArray #[], ty, pos, aft, none⟩ :: rest) L w :=
  wl_val hd (ev_makeBound hx) hk
end
theorem inC_cells2 (l : List Int) : inC.cells l = l.map intV := by
  induction l with
  | nil => rfl
  | cons a l ih => simp only [RowC.cells, List.flatMap_cons, List.map_cons] at ih ⊢; rw [ih]; rfl
end Go.Proofs.YtfmkodmmbgibgaaGreatDoor.M
/- The shelf's contract of sorting ints as a contract of things. Conditions: each one's own hypotheses. -/
namespace Go.Proofs.YtfmkodmmbgibgaaGreatDoor.M
open Go.RowKit Go.Sort
def sortI (l : List Int) : List Int := l.mergeSort fun x y => decide (x ≤ y)
theorem sortI_perm (l : List Int) : (sortI l).Perm l := List.mergeSort_perm _ _
theorem sortI_len (l : List Int) : (sortI l).length = l.length := (sortI_perm l).length_eq
theorem putCells_allI (d xs : List Int) (sp : List Value) (h : d.length = xs.length) : (putCells (Value.int .i64) 0 d.toArray (xs.map intV ++ sp).toArray) = (d.map intV ++ sp).toArray := by
  apply Array.ext_getElem?
  intro k
  unfold putCells
  simp only [Array.getElem?_mapIdx, List.getElem?_toArray, Nat.zero_le, true_and, Nat.zero_add, Nat.sub_zero, List.size_toArray]
  by_cases hk : k < d.length
  · rw [List.getElem?_append_left (by simpa [← h] using hk), List.getElem?_append_left (by simpa using hk)]
    simp [hk, h ▸ hk, intV]
  · rw [List.getElem?_append_right (by simp; omega), List.getElem?_append_right (by simp; omega)]
    have hk' : ¬ k < xs.length := by omega
    simp only [List.length_map, h, hk', if_false, Option.map_id']
theorem calls_sortI {P : Program} {f : Nat}
    (hsome : ∀ (blk off cap : Nat) (ss : List Int) (w : World), Holds (Value.int .i64) w blk off ss.toArray → blk < w.heap.size → ss.length < 4611686018427387904 → Calls P f #[.slice (some ⟨blk, off, none⟩) ss.length cap] w fun e w' => e = .returned (.tuple #[]) ∧ ∃ n os, w' = grow (putRow (Value.int .i64) (Go.Sort.ahead w n) blk off (ss.mergeSort fun x y => decide (x ≤ y)).toArray) os)
    (hnone : ∀ (p : Option Addr) (cap : Nat) (w : World), Calls P f #[.slice p 0 cap] w fun e w' => e = .returned (.tuple #[]) ∧ w' = w)
    {w : World} {v : Value} {l : List Int} {As : List Th} (hS : Sat w (rowT inC v l :: As)) (hl : l.length < 4611686018427387904) : Calls P f #[v] w (Ret fun u w' => u = .tuple #[] ∧ Sat w' (rowT inC v (sortI l) :: As)) := by
  obtain ⟨foot, hlen, h⟩ := hS.own 0 rfl
  rcases h with ⟨rfl, hn, hf⟩ | ⟨b, cap, sp, rfl, hcap, hb, hsz, hf⟩
  · have : l = [] := List.eq_nil_of_length_eq_zero hn
    subst this
    exact (hnone none 0 w).mono fun e w' ⟨h1, h2⟩ => ⟨_, h1, rfl, by rw [h2]; simpa [sortI] using hS⟩
  · have hH : Holds (Value.int .i64) w b 0 l.toArray := fun j hj => by
      have hj' : j < l.length := by simpa using hj
      rw [inC_cells2] at hb
      refine ⟨?_, ?_⟩
      · rw [Nat.zero_add]
        refine hb.cell ?_
        rw [List.getElem?_append_left (by simpa using hj')]
        simp [hj', intV]
      · exact hb.free _ (by simp; omega)
    refine (hsome b 0 cap l w hH hb.lt hl).mono fun e w' ⟨h1, n, os, h2⟩ => ⟨_, h1, rfl, ?_⟩
    have hlt := hb.lt
    have hheap : ∀ k, k < w.heap.size → k ≠ b → w'.heap[k]? = w.heap[k]? := fun k hk hne => by
      rw [h2, heap_grow_old _ _ (by simpa using hk)]
      simp only [putRow, mapBlock, heap_ahead, Array.getElem?_modify]
      rw [if_neg (fun q => hne q.symm)]
    obtain ⟨T, lo, hi, hc, hfz⟩ := hb
    have hnew : w'.heap[b]? = some (.cells ((sortI l).map intV ++ sp).toArray T (lo, hi)) := by
      rw [h2, heap_grow_old _ _ (by simpa using hlt)]
      simp only [putRow, mapBlock, heap_ahead, Array.getElem?_modify, if_pos, hc, Option.map_some, onCells, inC_cells2]
      rw [show (l.mergeSort fun x y => decide (x ≤ y)) = sortI l from rfl, putCells_allI _ _ _ (sortI_len l)]
    have ho : Only [b] w w' := by
      refine ⟨?_, ?_, ?_, ?_, fun k hk hn => hheap k hk (by simpa using hn)⟩
      · rw [h2]; rfl
      · rw [h2]; rfl
      · rw [h2]; rfl
      · rw [h2]; simp
    have hfin := hS.own_set (w' := w') 0 rfl (v' := .slice (some ⟨b, 0, none⟩) l.length cap) (n' := l.length) (size' := 1) (xs' := inC.cells (sortI l)) (fun foot' g => by
      obtain ⟨_, g⟩ := g
      rcases g with ⟨g0, _⟩ | ⟨b', cap', sp', g0, g1, g2, g3, g4⟩
      · cases g0
      · simp only [Value.slice.injEq, Option.some.injEq, Addr.mk.injEq, and_true, true_and] at g0
        obtain ⟨rfl, rfl⟩ := g0
        refine ⟨[b], ⟨?_, .inr ⟨b, cap, sp, rfl, hcap, ⟨T, lo, hi, ?_, ?_⟩, ?_, rfl⟩⟩, ?_, ?_⟩
        · rw [inC.cells_len, sortI_len]; rfl
        · rw [inC_cells2]; exact hnew
        · rcases hfz with q | q
          · exact .inl q
          · refine .inr ?_
            simp only [List.length_append, inC.cells_len, sortI_len] at q ⊢; exact q
        · simp only [List.length_append, inC.cells_len, sortI_len] at hsz ⊢; exact hsz
        · rw [g4]; exact ho
        · rw [g4]; intro k hk; exact .inl hk)
    have e : (sortI l).length = l.length := sortI_len l
    show Sat w' (ownT _ (sortI l).length 1 _ :: As)
    rw [e]; exact hfin
end Go.Proofs.YtfmkodmmbgibgaaGreatDoor.M
/- the reference of cell: Open -/
namespace Go.Proofs.YtfmkodmmbgibgaaGreatDoor
open Go.RowKit M
set_option linter.unusedVariables false
theorem sum_eq (b1 b2 b3 b4 : UInt8) : ((b1.toNat : Int) + 256 * (b2.toNat : Int) + 65536 * (b3.toNat : Int) + 16777216 * (b4.toNat : Int)).toNat = hdrN b1 b2 b3 b4 := by simp only [hdrN]; omega
set_option maxRecDepth 100000 in
theorem openR_sp {w : World} {p : Nat} {D : DS} {F : Th} (hS : Sat w [rT p D, F]) (f : Int) :
    Calls Tryz.prog 64 #[ptrV p 0, intV f] w (Ret fun v w' => (openE D f = 0 ∧ ∃ c, v = .tuple #[ptrV c 0, intV 0] ∧ Sat w' [blkT c (cellV p (openC D f)), rT p D, F]) ∨ (openE D f ≠ 0 ∧ v = .tuple #[.pointer none, intV (openE D f)] ∧ Sat w' [rT p D, F])) := by
 refine calls_enter Tryz.func64 rfl Tryz.ntmps64 rfl ?_
 refine wc_seq (wc_region (wl_assign rfl rfl (wl_assign rfl rfl (wl_nil (qs_seq (wc_seq (wc_region (wl_move rfl rfl (wl_move rfl rfl ?_)))))))))
 have hC1 := hS.split [0] [true, false] rfl; dsimp only [selF, pickA, nthA, List.cons_append, List.nil_append] at hC1
 refine wl_call cal_33 rfl (readRT hC1 f 0 5) rfl ?_
 rintro e w1 ⟨_, rfl, rfl, hS1⟩; refine ⟨_, rfl, ?_⟩
 replace hS1 := hS1.join rfl; dsimp only [List.dropLast, List.cons_append, List.nil_append] at hS1; clear hC1
 refine wl_move rfl rfl (wl_extract rfl rfl rfl (wl_extract rfl rfl rfl (wl_assign rfl rfl (wl_assign rfl rfl (wl_nil ?_)))))
 obtain ⟨h, hH⟩ : ∃ h, h = ReadS D f 0 5 := ⟨_, rfl⟩
 rw [← hH]
 have hh5 : (h.length : Int) ≤ 5 := by have := ReadS_len (D := D) (f := f) (a := 0) (n := 5); rw [← hH] at this; omega
 refine qs_seq ?_
 refine wc_sub (L' := [(7, _), (6, _), (5, _), (4, _), (0, _), (1, _)]) (.cons rfl (.cons rfl (.cons rfl (.cons rfl (.cons rfl (.cons rfl .nil)))))) ?_
 refine wc_seq (wc_seq (wc_region (wl_move rfl rfl ?_)))
 refine wl_neq rfl rfl rfl ?_
 refine wl_nil (qs_seq ?_)
 refine wc_condD rfl (fun h2 => ?_) (fun h2 => ?_)
 ·have hE : ReadE D f 0 5 ≠ 0 := h2
  refine wc_seq (wc_region (wl_move rfl rfl (wl_assign rfl rfl (wl_assign rfl rfl (wl_nil (qs_seq (wc_ret (qs_then_ret ?_))))))))
  refine fin2 (.inr rfl) rfl rfl rfl ?_
  exact ⟨_, rfl, .inr ⟨(open_err hE).1, by rw [(open_err hE).2], hS1.pick [0, 1] rfl⟩⟩
 have hE : ReadE D f 0 5 = 0 := Decidable.not_not.1 h2
 refine wc_skip (qs_seq (wc_seq (wc_region (wl_move rfl rfl (wl_move rfl rfl ?_)))))
 refine wl_buildS rfl pl_138_0_1 asz_138 zr_138 rfl rfl ?_
 refine wl_box hS1 rfl rfl rfl ?_
 intro b3 w3 hS3
 clear hS1
 refine wl_assign rfl rfl (wl_nil (qs_seq ?_))
 refine wc_sub (L' := [(8, _), (7, _), (6, _), (5, _), (4, _), (0, _), (1, _)]) (.cons rfl (.cons rfl (.cons rfl (.cons rfl (.cons rfl (.cons rfl (.cons rfl .nil))))))) ?_
 refine wc_seq (wc_seq (wc_region (wl_move rfl rfl ?_)))
 refine wl_eqlS rfl rfl rfl ?_
 refine wl_nil (qs_seq ?_)
 refine wc_condD rfl (fun h4 => ?_) (fun h4 => ?_)
 ·have hh0 : h = [] := h4
  refine wc_seq (wc_region (wl_move rfl rfl (wl_assign rfl rfl (wl_assign rfl rfl (wl_nil (qs_seq (wc_ret (qs_then_ret ?_))))))))
  refine fin2 (.inr rfl) rfl rfl rfl ?_
  subst hh0
  exact ⟨_, rfl, .inl ⟨(open_none hE (by rw [← hH]; exact hdr_none (.inl rfl))).1, _, rfl, by rw [(open_none hE (by rw [← hH]; exact hdr_none (.inl rfl))).2]; exact hS3.pick [0, 1, 2] rfl⟩⟩
 obtain ⟨b0, r, rfl⟩ := List.exists_cons_of_ne_nil h4
 refine wc_skip (qs_seq (wc_seq (wc_seq (wc_region (wl_move rfl rfl ?_)))))
 refine wl_indexS _ Tryz.underlying9 rfl rfl (by first | rfl | omega) (by first | assumption | rfl) rfl ?_
 refine wl_eql rfl rfl rfl ?_
 refine wl_nil (qs_seq ?_)
 refine wc_sub (L' := [(28, _), (8, _), (7, _), (6, _), (5, _), (4, _), (0, _), (1, _)]) (.cons rfl (.cons rfl (.cons rfl (.cons rfl (.cons rfl (.cons rfl (.cons rfl (.cons rfl .nil)))))))) ?_
 refine wc_condD rfl (fun h5 => ?_) (fun h5 => ?_)
 ·have hb00 : b0 = 0 := u8_eq (k := 0) (by omega) h5
  refine wc_seq (wc_region (wl_move rfl rfl (wl_assign rfl rfl (wl_assign rfl rfl (wl_nil (qs_seq (wc_ret (qs_then_ret ?_))))))))
  refine fin2 (.inr rfl) rfl rfl rfl ?_
  exact ⟨_, rfl, .inl ⟨(open_none hE (by rw [← hH]; exact hdr_none (.inr ⟨r, by rw [hb00]⟩))).1, _, rfl, by rw [(open_none hE (by rw [← hH]; exact hdr_none (.inr ⟨r, by rw [hb00]⟩))).2]; exact hS3.pick [0, 1, 2] rfl⟩⟩
 have hb0 : b0 ≠ 0 := u8_ne (k := 0) (by omega) h5
 refine wc_skip (qs_seq (wc_seq (wc_seq (wc_region (wl_move rfl rfl ?_)))))
 refine wl_lenS Tryz.underlying9 rfl rfl ?_
 refine wl_lss rfl rfl rfl ?_
 refine wl_nil (qs_seq ?_)
 refine wc_sub (L' := [(32, _), (8, _), (7, _), (6, _), (5, _), (4, _), (0, _), (1, _)]) (.cons rfl (.cons rfl (.cons rfl (.cons rfl (.cons rfl (.cons rfl (.cons rfl (.cons rfl .nil)))))))) ?_
 refine wc_condD rfl (fun h6 => ?_) (fun h6 => ?_)
 ·have hlen5 := h6
  refine wc_seq (wc_region (wl_assign rfl rfl (wl_assign rfl rfl (wl_nil (qs_seq (wc_ret (qs_then_ret ?_)))))))
  refine fin2 (.inr rfl) rfl rfl rfl ?_
  exact ⟨_, rfl, .inr ⟨(open_bad hE (by rw [← hH]; exact hdr_short hb0 (by simp at hlen5; omega))).1, by rw [(open_bad hE (by rw [← hH]; exact hdr_short hb0 (by simp at hlen5; omega))).2], hS3.pick [1, 2] rfl⟩⟩
 have hlen5 : r.length = 4 := by simp at hh5; have := h6; simp at this; omega
 obtain ⟨b1_, b2, b3, b4, rfl⟩ : ∃ b1 b2 b3 b4, r = [b1, b2, b3, b4] := by match r, hlen5 with | [b1, b2, b3, b4], _ => exact ⟨_, _, _, _, rfl⟩
 have hl1 := u8_lt b1_; have hl2 := u8_lt b2; have hl3 := u8_lt b3; have hl4 := u8_lt b4
 refine wc_skip (qs_seq (wc_seq ?_))
 have hS7 := hS3.drew
 refine wc_draw [0, 1, 2, 3, 4, 5, 6, 7, 8, 9, 10, 11, 12, 13, 14, 15, 16, 17, 18] [] mix (by kernel_rfl) ?_
 refine vc_p rfl rfl rfl (fun _ => (ev_move rfl)) ?_
 refine vc_q rfl rfl rfl (ev_indexS _ Tryz.underlying9 rfl rfl (by first | rfl | omega) (by first | assumption | rfl)) ?_
 refine vc_p rfl rfl rfl (fun _ => (ev_convU8 Tryz.underlying5 Tryz.underlying3 rfl)) ?_
 refine vc_p rfl rfl rfl (fun _ => (ev_move rfl)) ?_
 refine vc_q rfl rfl rfl (ev_indexS _ Tryz.underlying9 rfl rfl (by first | rfl | omega) (by first | assumption | rfl)) ?_
 refine vc_p rfl rfl rfl (fun _ => (ev_convU8 Tryz.underlying5 Tryz.underlying3 rfl)) ?_
 refine vc_p rfl rfl rfl (fun _ => (ev_mul rfl rfl (by omega) (by omega))) ?_
 refine vc_p rfl rfl rfl (fun _ => (ev_add rfl rfl (by omega) (by omega))) ?_
 refine vc_p rfl rfl rfl (fun _ => (ev_move rfl)) ?_
 refine vc_q rfl rfl rfl (ev_indexS _ Tryz.underlying9 rfl rfl (by first | rfl | omega) (by first | assumption | rfl)) ?_
 refine vc_p rfl rfl rfl (fun _ => (ev_convU8 Tryz.underlying5 Tryz.underlying3 rfl)) ?_
 refine vc_p rfl rfl rfl (fun _ => (ev_mul rfl rfl (by omega) (by omega))) ?_
 refine vc_p rfl rfl rfl (fun _ => (ev_add rfl rfl (by omega) (by omega))) ?_
 refine vc_p rfl rfl rfl (fun _ => (ev_move rfl)) ?_
 refine vc_q rfl rfl rfl (ev_indexS _ Tryz.underlying9 rfl rfl (by first | rfl | omega) (by first | assumption | rfl)) ?_
 refine vc_p rfl rfl rfl (fun _ => (ev_convU8 Tryz.underlying5 Tryz.underlying3 rfl)) ?_
 refine vc_p rfl rfl rfl (fun _ => (ev_mul rfl rfl (by omega) (by omega))) ?_
 refine vc_p rfl rfl rfl (fun _ => (ev_add rfl rfl (by omega) (by omega))) ?_
 refine vc_p rfl rfl rfl (fun _ => (ev_assign rfl)) ?_
 refine VC.nil (qs_seq ?_)
 refine wc_sub (L' := [(9, _), (8, _), (7, _), (6, _), (5, _), (4, _), (0, _), (1, _)]) (.cons rfl (.cons rfl (.cons rfl (.cons rfl (.cons rfl (.cons rfl (.cons rfl (.cons rfl .nil)))))))) ?_
 refine wc_seq (wc_seq (wc_region (wl_move rfl rfl ?_)))
 refine wl_indexS _ Tryz.underlying9 rfl rfl (by first | rfl | omega) (by first | assumption | rfl) rfl ?_
 refine wl_neq rfl rfl rfl ?_
 refine wl_move rfl rfl ?_
 refine wl_splitD 54 rfl (fun h8 => ?_) (fun h8 => ?_)
 ·have hn1 := u8_ne (k := 1) (by omega) h8
  refine wl_guard rfl rfl (decide_eq_true h8) ?_
  refine wl_move rfl rfl ?_
  refine wl_guard rfl rfl (decide_eq_true h8) ?_
  refine wl_indexS _ Tryz.underlying9 rfl rfl (by first | rfl | omega) (by first | assumption | rfl) rfl ?_
  refine wl_guard rfl rfl (decide_eq_true h8) ?_
  refine wl_neq rfl rfl rfl ?_
  refine wl_pickT rfl (decide_eq_true h8) rfl rfl ?_
  refine wl_move rfl rfl ?_
  refine wl_splitD 59 rfl (fun h9 => ?_) (fun h9 => ?_)
  ·have hn2 := u8_ne (k := 2) (by omega) h9
   refine wl_unwanted rfl rfl (decide_eq_true h9) rfl ?_
   refine wl_unwanted rfl rfl (decide_eq_true h9) rfl ?_
   refine wl_pickT rfl (decide_eq_true h9) rfl rfl ?_
   refine wl_nil (qs_seq ?_)
   refine wc_sub (L' := [(62, _), (9, _), (8, _), (7, _), (6, _), (5, _), (4, _), (0, _), (1, _)]) (.cons rfl (.cons rfl (.cons rfl (.cons rfl (.cons rfl (.cons rfl (.cons rfl (.cons rfl (.cons rfl .nil))))))))) ?_
   refine wc_condT rfl ?_
   refine wc_seq (wc_region (wl_assign rfl rfl (wl_assign rfl rfl (wl_nil (qs_seq (wc_ret (qs_then_ret ?_)))))))
   refine fin2 (.inr rfl) rfl rfl rfl ?_
   exact ⟨_, rfl, .inr ⟨(open_bad hE (by rw [← hH]; exact hdr_bad hb0 (by rintro ⟨h12, _⟩; rcases h12 with rfl | rfl <;> simp_all))).1, by rw [(open_bad hE (by rw [← hH]; exact hdr_bad hb0 (by rintro ⟨h12, _⟩; rcases h12 with rfl | rfl <;> simp_all))).2], hS7.pick [1, 2] rfl⟩⟩
  have hq := h9
  refine wl_guard rfl rfl (decide_eq_false h9) ?_
  refine wl_move rfl rfl ?_
  refine wl_guard rfl rfl (decide_eq_false h9) ?_
  refine wl_gtr rfl rfl rfl ?_
  refine wl_pickF rfl (decide_eq_false h9) rfl rfl ?_
  refine wl_nil (qs_seq ?_)
  refine wc_sub (L' := [(62, _), (9, _), (8, _), (7, _), (6, _), (5, _), (4, _), (0, _), (1, _)]) (.cons rfl (.cons rfl (.cons rfl (.cons rfl (.cons rfl (.cons rfl (.cons rfl (.cons rfl (.cons rfl .nil))))))))) ?_
  refine wc_condD rfl (fun h10 => ?_) (fun h10 => ?_)
  ·refine wc_seq (wc_region (wl_assign rfl rfl (wl_assign rfl rfl (wl_nil (qs_seq (wc_ret (qs_then_ret ?_)))))))
   refine fin2 (.inr rfl) rfl rfl rfl ?_
   exact ⟨_, rfl, .inr ⟨(open_bad hE (by rw [← hH]; exact hdr_bad hb0 (by rw [← sum_eq]; omega))).1, by rw [(open_bad hE (by rw [← hH]; exact hdr_bad hb0 (by rw [← sum_eq]; omega))).2], hS7.pick [1, 2] rfl⟩⟩
  have h12 : b0 = 1 ∨ b0 = 2 := .inr (u8_eq (k := 2) (by omega) (Decidable.not_not.1 hq))
  have hn : hdrN b1_ b2 b3 b4 ≤ 65536 := by rw [← sum_eq]; omega
  have hSl : hdrOf (ReadS D f 0 5) = .slot b0.toNat (hdrN b1_ b2 b3 b4) := by rw [← hH]; exact hdr_ok h12 hn
  have hsum : (b1_.toNat : Int) + 256 * (b2.toNat : Int) + 65536 * (b3.toNat : Int) + 16777216 * (b4.toNat : Int) = ((hdrN b1_ b2 b3 b4 : Nat) : Int) := by simp only [hdrN]; omega
  rw [hsum]
  obtain ⟨n, hN⟩ : ∃ n, n = hdrN b1_ b2 b3 b4 := ⟨_, rfl⟩
  rw [← hN] at hSl hn ⊢
  refine wc_skip (qs_seq (wc_seq (wc_region (wl_move rfl rfl (wl_move rfl rfl ?_)))))
  refine wl_indexS _ Tryz.underlying9 rfl rfl (by first | rfl | omega) (by first | assumption | rfl) rfl ?_
  refine wl_convU8 Tryz.underlying5 Tryz.underlying3 rfl rfl ?_
  refine wl_nilCheck rfl rfl ?_
  refine wl_fieldAddr rfl fo_138_2 rfl ?_
  first | (refine wl_store hS7 rfl rfl sz_3 (by first | rfl | assumption) (i := 0) rfl (by first | decide | exact Nat.le_of_ble_eq_true rfl | (simp; done) | omega) ?_)
  intro w11 hS12; dsimp only [List.set] at hS12
  clear hS7
  refine wl_nil (qs_seq ?_)
  refine wc_sub (L' := [(9, _), (8, _), (7, _), (5, _), (4, _), (0, _), (1, _)]) (.cons rfl (.cons rfl (.cons rfl (.cons rfl (.cons rfl (.cons rfl (.cons rfl .nil))))))) ?_
  refine wc_seq (wc_region (wl_move rfl rfl (wl_move rfl rfl (wl_move rfl rfl (wl_move rfl rfl (wl_nilCheck rfl rfl ?_))))))
  refine wl_fieldAddr rfl fo_138_2 rfl ?_
  refine wl_load rfl ag_3 (by first | assumption | exact hS12.cell 0 rfl rfl) rfl ?_
  have hC13 := hS12.split [] [false, false, false] rfl; dsimp only [selF, pickA, nthA, List.cons_append, List.nil_append] at hC13
  refine wl_call cal_100 rfl (begin_sp hC13 b0.toNat) rfl ?_
  rintro e w13 ⟨_, rfl, rfl, hS13⟩; refine ⟨_, rfl, ?_⟩
  replace hS13 := hS13.join rfl; dsimp only [List.dropLast, List.cons_append, List.nil_append] at hS13; clear hC13
  clear hS12
  refine wl_move rfl rfl ?_
  have hC14 := hS13.split [1] [false, true, false] rfl; dsimp only [selF, pickA, nthA, List.cons_append, List.nil_append] at hC14
  refine wl_call cal_33 rfl (readRT hC14 f (slotOff b0.toNat) n) rfl ?_
  rintro e w14 ⟨_, rfl, rfl, hS14⟩; refine ⟨_, rfl, ?_⟩
  replace hS14 := hS14.join rfl; dsimp only [List.dropLast, List.cons_append, List.nil_append] at hS14; clear hC14
  clear hS13
  have hE2 : ReadE D f (slotOff b0.toNat) n = 0 := ReadE_same hE (slotOff_pos _) (by omega)
  rw [hE2]
  refine wl_move rfl rfl (wl_extract rfl rfl rfl (wl_extract rfl rfl rfl (wl_nilCheck rfl rfl ?_)))
  refine wl_fieldAddr rfl fo_138_3 rfl ?_
  first | (refine wl_store hS14 rfl rfl sz_9 (by first | rfl | assumption) (i := 1) rfl (by first | decide | exact Nat.le_of_ble_eq_true rfl | (simp; done) | omega) ?_)
  intro w15 hS16; dsimp only [List.set] at hS16
  clear hS14
  refine wl_assign rfl rfl (wl_nil (qs_seq ?_))
  refine wc_sub (L' := [(7, _), (9, _), (8, _), (5, _), (4, _)]) (.cons rfl (.cons rfl (.cons rfl (.cons rfl (.cons rfl .nil))))) ?_
  refine wc_seq (wc_seq (wc_region (wl_move rfl rfl ?_)))
  refine wl_neq rfl rfl rfl ?_
  refine wl_nil (qs_seq ?_)
  refine wc_condD rfl (fun h17 => ?_) (fun h17 => ?_)
  ·refine wc_seq (wc_region (wl_move rfl rfl (wl_assign rfl rfl (wl_assign rfl rfl (wl_nil (qs_seq (wc_ret (qs_then_ret ?_))))))))
   refine fin2 (.inr rfl) rfl rfl rfl ?_
   exact absurd rfl h17
  refine wc_skip (qs_seq (wc_seq (wc_seq (wc_region (wl_move rfl rfl (wl_nilCheck rfl rfl ?_))))))
  refine wl_fieldAddr rfl fo_138_3 rfl ?_
  refine wl_load rfl ag_9 (by first | assumption | exact hS16.cell 1 rfl rfl) rfl ?_
  refine wl_lenS Tryz.underlying9 rfl rfl ?_
  refine wl_move rfl rfl ?_
  refine wl_neq rfl rfl rfl ?_
  refine wl_nil (qs_seq ?_)
  refine wc_sub (L' := [(93, _), (8, _), (5, _), (4, _)]) (.cons rfl (.cons rfl (.cons rfl (.cons rfl .nil)))) ?_
  refine wc_condD rfl (fun h18 => ?_) (fun h18 => ?_)
  ·refine wc_seq (wc_region (wl_assign rfl rfl (wl_assign rfl rfl (wl_nil (qs_seq (wc_ret (qs_then_ret ?_)))))))
   refine fin2 (.inr rfl) rfl rfl rfl ?_
   exact ⟨_, rfl, .inr ⟨(open_cut hE hSl (by have := ReadS_len (D := D) (f := f) (a := slotOff b0.toNat) (n := n); omega)).1, by rw [(open_cut hE hSl (by have := ReadS_len (D := D) (f := f) (a := slotOff b0.toNat) (n := n); omega)).2], hS16.pick [0, 2] rfl⟩⟩
  refine wc_skip (qs_seq (wc_seq (wc_region (wl_move rfl rfl (wl_assign rfl rfl (wl_assign rfl rfl (wl_nil (qs_seq (wc_ret ?_)))))))))
  refine fin2 (.inr rfl) rfl rfl rfl ?_
  exact ⟨_, rfl, .inl ⟨(open_ok hE hSl (by omega)).1, _, rfl, by rw [(open_ok hE hSl (by omega)).2]; exact hS16.pick [1, 0, 2] rfl⟩⟩
 have h12 : b0 = 1 ∨ b0 = 2 := .inl (u8_eq (k := 1) (by omega) (Decidable.not_not.1 h8))
 refine wl_unwanted rfl rfl (decide_eq_false h8) rfl ?_
 refine wl_unwanted rfl rfl (decide_eq_false h8) rfl ?_
 refine wl_unwanted rfl rfl (decide_eq_false h8) rfl ?_
 refine wl_pickF rfl (decide_eq_false h8) rfl rfl ?_
 refine wl_move rfl rfl ?_
 refine wl_guard rfl rfl rfl ?_
 refine wl_move rfl rfl ?_
 refine wl_guard rfl rfl rfl ?_
 refine wl_gtr rfl rfl rfl ?_
 refine wl_pickF rfl rfl rfl rfl ?_
 refine wl_nil (qs_seq ?_)
 refine wc_sub (L' := [(62, _), (9, _), (8, _), (7, _), (6, _), (5, _), (4, _), (0, _), (1, _)]) (.cons rfl (.cons rfl (.cons rfl (.cons rfl (.cons rfl (.cons rfl (.cons rfl (.cons rfl (.cons rfl .nil))))))))) ?_
 refine wc_condD rfl (fun h19 => ?_) (fun h19 => ?_)
 ·refine wc_seq (wc_region (wl_assign rfl rfl (wl_assign rfl rfl (wl_nil (qs_seq (wc_ret (qs_then_ret ?_)))))))
  refine fin2 (.inr rfl) rfl rfl rfl ?_
  exact ⟨_, rfl, .inr ⟨(open_bad hE (by rw [← hH]; exact hdr_bad hb0 (by rw [← sum_eq]; omega))).1, by rw [(open_bad hE (by rw [← hH]; exact hdr_bad hb0 (by rw [← sum_eq]; omega))).2], hS7.pick [1, 2] rfl⟩⟩
 have hn : hdrN b1_ b2 b3 b4 ≤ 65536 := by rw [← sum_eq]; omega
 have hSl : hdrOf (ReadS D f 0 5) = .slot b0.toNat (hdrN b1_ b2 b3 b4) := by rw [← hH]; exact hdr_ok h12 hn
 have hsum : (b1_.toNat : Int) + 256 * (b2.toNat : Int) + 65536 * (b3.toNat : Int) + 16777216 * (b4.toNat : Int) = ((hdrN b1_ b2 b3 b4 : Nat) : Int) := by simp only [hdrN]; omega
 rw [hsum]
 obtain ⟨n, hN⟩ : ∃ n, n = hdrN b1_ b2 b3 b4 := ⟨_, rfl⟩
 rw [← hN] at hSl hn ⊢
 refine wc_skip (qs_seq (wc_seq (wc_region (wl_move rfl rfl (wl_move rfl rfl ?_)))))
 refine wl_indexS _ Tryz.underlying9 rfl rfl (by first | rfl | omega) (by first | assumption | rfl) rfl ?_
 refine wl_convU8 Tryz.underlying5 Tryz.underlying3 rfl rfl ?_
 refine wl_nilCheck rfl rfl ?_
 refine wl_fieldAddr rfl fo_138_2 rfl ?_
 first | (refine wl_store hS7 rfl rfl sz_3 (by first | rfl | assumption) (i := 0) rfl (by first | decide | exact Nat.le_of_ble_eq_true rfl | (simp; done) | omega) ?_)
 intro w20 hS21; dsimp only [List.set] at hS21
 clear hS7
 refine wl_nil (qs_seq ?_)
 refine wc_sub (L' := [(9, _), (8, _), (7, _), (5, _), (4, _), (0, _), (1, _)]) (.cons rfl (.cons rfl (.cons rfl (.cons rfl (.cons rfl (.cons rfl (.cons rfl .nil))))))) ?_
 refine wc_seq (wc_region (wl_move rfl rfl (wl_move rfl rfl (wl_move rfl rfl (wl_move rfl rfl (wl_nilCheck rfl rfl ?_))))))
 refine wl_fieldAddr rfl fo_138_2 rfl ?_
 refine wl_load rfl ag_3 (by first | assumption | exact hS21.cell 0 rfl rfl) rfl ?_
 have hC22 := hS21.split [] [false, false, false] rfl; dsimp only [selF, pickA, nthA, List.cons_append, List.nil_append] at hC22
 refine wl_call cal_100 rfl (begin_sp hC22 b0.toNat) rfl ?_
 rintro e w22 ⟨_, rfl, rfl, hS22⟩; refine ⟨_, rfl, ?_⟩
 replace hS22 := hS22.join rfl; dsimp only [List.dropLast, List.cons_append, List.nil_append] at hS22; clear hC22
 clear hS21
 refine wl_move rfl rfl ?_
 have hC23 := hS22.split [1] [false, true, false] rfl; dsimp only [selF, pickA, nthA, List.cons_append, List.nil_append] at hC23
 refine wl_call cal_33 rfl (readRT hC23 f (slotOff b0.toNat) n) rfl ?_
 rintro e w23 ⟨_, rfl, rfl, hS23⟩; refine ⟨_, rfl, ?_⟩
 replace hS23 := hS23.join rfl; dsimp only [List.dropLast, List.cons_append, List.nil_append] at hS23; clear hC23
 clear hS22
 have hE2 : ReadE D f (slotOff b0.toNat) n = 0 := ReadE_same hE (slotOff_pos _) (by omega)
 rw [hE2]
 refine wl_move rfl rfl (wl_extract rfl rfl rfl (wl_extract rfl rfl rfl (wl_nilCheck rfl rfl ?_)))
 refine wl_fieldAddr rfl fo_138_3 rfl ?_
 first | (refine wl_store hS23 rfl rfl sz_9 (by first | rfl | assumption) (i := 1) rfl (by first | decide | exact Nat.le_of_ble_eq_true rfl | (simp; done) | omega) ?_)
 intro w24 hS25; dsimp only [List.set] at hS25
 clear hS23
 refine wl_assign rfl rfl (wl_nil (qs_seq ?_))
 refine wc_sub (L' := [(7, _), (9, _), (8, _), (5, _), (4, _)]) (.cons rfl (.cons rfl (.cons rfl (.cons rfl (.cons rfl .nil))))) ?_
 refine wc_seq (wc_seq (wc_region (wl_move rfl rfl ?_)))
 refine wl_neq rfl rfl rfl ?_
 refine wl_nil (qs_seq ?_)
 refine wc_condD rfl (fun h26 => ?_) (fun h26 => ?_)
 ·refine wc_seq (wc_region (wl_move rfl rfl (wl_assign rfl rfl (wl_assign rfl rfl (wl_nil (qs_seq (wc_ret (qs_then_ret ?_))))))))
  refine fin2 (.inr rfl) rfl rfl rfl ?_
  exact absurd rfl h26
 refine wc_skip (qs_seq (wc_seq (wc_seq (wc_region (wl_move rfl rfl (wl_nilCheck rfl rfl ?_))))))
 refine wl_fieldAddr rfl fo_138_3 rfl ?_
 refine wl_load rfl ag_9 (by first | assumption | exact hS25.cell 1 rfl rfl) rfl ?_
 refine wl_lenS Tryz.underlying9 rfl rfl ?_
 refine wl_move rfl rfl ?_
 refine wl_neq rfl rfl rfl ?_
 refine wl_nil (qs_seq ?_)
 refine wc_sub (L' := [(93, _), (8, _), (5, _), (4, _)]) (.cons rfl (.cons rfl (.cons rfl (.cons rfl .nil)))) ?_
 refine wc_condD rfl (fun h27 => ?_) (fun h27 => ?_)
 ·refine wc_seq (wc_region (wl_assign rfl rfl (wl_assign rfl rfl (wl_nil (qs_seq (wc_ret (qs_then_ret ?_)))))))
  refine fin2 (.inr rfl) rfl rfl rfl ?_
  exact ⟨_, rfl, .inr ⟨(open_cut hE hSl (by have := ReadS_len (D := D) (f := f) (a := slotOff b0.toNat) (n := n); omega)).1, by rw [(open_cut hE hSl (by have := ReadS_len (D := D) (f := f) (a := slotOff b0.toNat) (n := n); omega)).2], hS25.pick [0, 2] rfl⟩⟩
 refine wc_skip (qs_seq (wc_seq (wc_region (wl_move rfl rfl (wl_assign rfl rfl (wl_assign rfl rfl (wl_nil (qs_seq (wc_ret ?_)))))))))
 refine fin2 (.inr rfl) rfl rfl rfl ?_
 exact ⟨_, rfl, .inl ⟨(open_ok hE hSl (by omega)).1, _, rfl, by rw [(open_ok hE hSl (by omega)).2]; exact hS25.pick [1, 0, 2] rfl⟩⟩
end Go.Proofs.YtfmkodmmbgibgaaGreatDoor
