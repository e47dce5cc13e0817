/- procs, in plain data: keys -/
import Derived.Test.YtcbdclhoekokpaaGreatDoorPc6
namespace Go.Proofs.YtcbdclhoekokpaaGreatDoor
open Go.RowKit M
set_option linter.unusedVariables false
def padD : Nat → Nat → Bs
  | 0, _ => []
  | k + 1, n => padD k (n / 10) ++ [UInt8.ofNat (48 + n % 10)]
theorem padD_len : ∀ (k n : Nat), (padD k n).length = k
  | 0, _ => rfl
  | k + 1, n => by simp [padD, padD_len k]
theorem padD_zero : ∀ k, padD k 0 = List.replicate k 48
  | 0 => rfl
  | k + 1 => by
    rw [padD, padD_zero k, List.replicate_succ']
    rfl
theorem pad_dec : ∀ (k n : Nat), n < 10 ^ (k + 1) → List.replicate (k + 1 - (Lib.decDigits n).length) 48 ++ Lib.decDigits n = padD (k + 1) n
  | k, n, h => by
    by_cases hn : n < 10
    · have e : Lib.decDigits n = [UInt8.ofNat (48 + n)] := by rw [Lib.decDigits, dif_pos hn]
      rw [e, padD, show n / 10 = 0 by omega, padD_zero, show n % 10 = n by omega]
      simp
    · have e : Lib.decDigits n = Lib.decDigits (n / 10) ++ [UInt8.ofNat (48 + n % 10)] := by rw [Lib.decDigits, dif_neg hn]
      cases k with
      | zero => simp at h; omega
      | succ k =>
        have ih := pad_dec k (n / 10) (by rw [Nat.pow_succ] at h; omega)
        rw [e, List.length_append, List.length_singleton, ← List.append_assoc, padD]
        rw [show k + 1 + 1 - ((Lib.decDigits (n / 10)).length + 1) = k + 1 - (Lib.decDigits (n / 10)).length by omega, ih]
theorem snoc_lt {c d : UInt8} : ∀ (u v : Bs), u.length = v.length → (u ++ [c] < v ++ [d] ↔ u < v ∨ u = v ∧ c < d)
  | [], [], _ => by
    show ([c] : Bs) < [d] ↔ _
    rw [List.cons_lt_cons_iff]; simp
  | [], _ :: _, h => by simp at h
  | _ :: _, [], h => by simp at h
  | a :: u, b :: v, h => by
    have ih := snoc_lt (c := c) (d := d) u v (by simpa using h)
    rw [List.cons_append, List.cons_append, List.cons_lt_cons_iff, List.cons_lt_cons_iff, ih]
    constructor
    · rintro (h1 | ⟨rfl, h1 | ⟨rfl, h1⟩⟩)
      · exact .inl (.inl h1)
      · exact .inl (.inr ⟨rfl, h1⟩)
      · exact .inr ⟨rfl, h1⟩
    · rintro ((h1 | ⟨rfl, h1⟩) | ⟨h0, h1⟩)
      · exact .inl h1
      · exact .inr ⟨rfl, .inl h1⟩
      · cases h0; exact .inr ⟨rfl, .inr ⟨rfl, h1⟩⟩
theorem dig_lt {a b : Nat} : UInt8.ofNat (48 + a % 10) < UInt8.ofNat (48 + b % 10) ↔ a % 10 < b % 10 := by
  rw [UInt8.lt_iff_toNat_lt]
  simp only [UInt8.toNat_ofNat']
  omega
theorem padD_inj : ∀ (k a b : Nat), a < 10 ^ k → b < 10 ^ k → padD k a = padD k b → a = b
  | 0, a, b, ha, hb, _ => by simp at ha hb; omega
  | k + 1, a, b, ha, hb, h => by
    rw [Nat.pow_succ] at ha hb
    rw [padD, padD] at h
    obtain ⟨h1, h2⟩ := List.append_inj h (by rw [padD_len, padD_len])
    have h3 := padD_inj k (a / 10) (b / 10) (by omega) (by omega) h1
    have h4 : UInt8.ofNat (48 + a % 10) = UInt8.ofNat (48 + b % 10) := by simpa using h2
    have h5 := congrArg UInt8.toNat h4
    simp only [UInt8.toNat_ofNat'] at h5
    omega
theorem padD_lt : ∀ (k a b : Nat), a < 10 ^ k → b < 10 ^ k → (padD k a < padD k b ↔ a < b)
  | 0, a, b, ha, hb => by simp at ha hb; subst ha hb; simp [padD]
  | k + 1, a, b, ha, hb => by
    rw [Nat.pow_succ] at ha hb
    rw [padD, padD, snoc_lt _ _ (by rw [padD_len, padD_len]), padD_lt k (a / 10) (b / 10) (by omega) (by omega), dig_lt]
    constructor
    · rintro (h | ⟨h, h2⟩)
      · omega
      · have := padD_inj k (a / 10) (b / 10) (by omega) (by omega) h
        omega
    · intro h
      by_cases e : a / 10 = b / 10
      · exact .inr ⟨by rw [e], by omega⟩
      · exact .inl (by omega)
theorem keyP_pad {n : Nat} (h : 1 ≤ n ∧ n ≤ 999999) : keyP (n : Int) = 80 :: 47 :: padD 6 n := by
  unfold keyP
  rw [if_neg (by omega), Lib.itoa_nonneg]
  have := pad_dec 5 n (by omega)
  rw [List.append_assoc, this]; rfl
theorem keyP_lt {a b : Int} (ha : 1 ≤ a ∧ a ≤ 999999) (hb : 1 ≤ b ∧ b ≤ 999999) : keyP a < keyP b ↔ a < b := by
  obtain ⟨n, rfl⟩ : ∃ n : Nat, a = n := ⟨a.toNat, by omega⟩
  obtain ⟨m, rfl⟩ : ∃ m : Nat, b = m := ⟨b.toNat, by omega⟩
  rw [keyP_pad (by omega), keyP_pad (by omega), List.cons_lt_cons_iff, List.cons_lt_cons_iff, padD_lt 6 n m (by omega) (by omega)]
  simp
theorem keyP_inj {a b : Int} (ha : 1 ≤ a ∧ a ≤ 999999) (hb : 1 ≤ b ∧ b ≤ 999999) (h : keyP a = keyP b) : a = b := by
  have h1 := keyP_lt ha hb
  have h2 := keyP_lt hb ha
  rw [h] at h1 h2
  have h3 : ¬ keyP b < keyP b := List.lt_irrefl _
  have h4 : ¬ a < b := fun q => h3 (h1.2 q)
  have h5 : ¬ b < a := fun q => h3 (h2.2 q)
  omega
theorem keyP_eight {a : Int} (ha : 1 ≤ a ∧ a ≤ 999999) : (keyP a).length = 8 := by
  obtain ⟨n, rfl⟩ : ∃ n : Nat, a = n := ⟨a.toNat, by omega⟩
  rw [keyP_pad (by omega)]; simp [padD_len]
theorem keyP_nil {a : Int} : keyP a = [] ↔ ¬ (1 ≤ a ∧ a ≤ 999999) := by
  constructor
  · intro h q
    have := keyP_eight q
    rw [h] at this; cases this
  · intro h; unfold keyP; rw [if_pos (by omega)]
theorem keyP_pre {a : Int} (ha : 1 ≤ a ∧ a ≤ 999999) : Lib.hasPrefix (keyP a) [80, 47] = true := by
  obtain ⟨n, rfl⟩ : ∃ n : Nat, a = n := ⟨a.toNat, by omega⟩
  rw [keyP_pad (by omega)]; rfl
theorem recF_some {W : WS} {k : Bs} {x : ProcD} (h : recF W k = some x) : decP (W.cells k) = some x ∧ keyP (hq x 0) = k := by
  unfold recF at h
  cases hd : decP (W.cells k) with
  | none => rw [hd] at h; cases h
  | some y =>
    rw [hd] at h
    dsimp only at h
    split at h
    · cases h; exact ⟨rfl, by assumption⟩
    · cases h
theorem recs_mem {W : WS} {pr : ProcD → Bool} {l : List Bs} {x : ProcD} (h : x ∈ recsF W pr l) : pr x = true ∧ keyP (hq x 0) ∈ l ∧ decP (W.cells (keyP (hq x 0))) = some x := by
  unfold recsF at h
  obtain ⟨h1, h2⟩ := List.mem_filter.1 h
  obtain ⟨k, hk, h3⟩ := List.mem_filterMap.1 h1
  obtain ⟨h4, h5⟩ := recF_some h3
  subst h5
  exact ⟨h2, hk, h4⟩
theorem dec_nil : decP [] = none := by
  cases h : decP [] with
  | none => rfl
  | some x =>
    have := (dec_some h).2
    have hl := congrArg List.length this
    simp [encR, encT] at hl
theorem recs_valid {W : WS} {pr : ProcD → Bool} {l : List Bs} {x : ProcD} (h : x ∈ recsF W pr l) (hk : ∀ k ∈ l, Lib.hasPrefix k [80, 47] = true) : 1 ≤ hq x 0 ∧ hq x 0 ≤ 999999 := by
  obtain ⟨_, h2, _⟩ := recs_mem h
  have := hk _ h2
  apply Decidable.byContradiction
  intro q
  rw [keyP_nil.2 q] at this
  cases this
end Go.Proofs.YtcbdclhoekokpaaGreatDoor
