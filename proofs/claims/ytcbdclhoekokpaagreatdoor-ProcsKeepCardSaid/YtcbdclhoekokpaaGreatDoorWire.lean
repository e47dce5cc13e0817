/- wire: numbers as text and back, in plain data; comparing interface values with nil. Conditions: each lemma's own hypotheses. -/
import Derived.Test.YtcbdclhoekokpaaGreatDoorEqm
import Derived.Test.YtcbdclhoekokpaaGreatDoorShf
import Derived.Test.YtcbdclhoekokpaaGreatDoorWld
import Derived.Lib.AtoiAll
import Derived.Lib.ItoaLen
import Derived.Lib.IndexLaws
namespace Go.Proofs.YtcbdclhoekokpaaGreatDoor
open Go.RowKit M

def inI (n : Int) : Prop := -9223372036854775808 ≤ n ∧ n ≤ 9223372036854775807
theorem nDigits_le : ∀ (k u : Nat), u < 10 ^ (k + 1) → Lib.nDigits u ≤ k + 1
  | 0, u, h => by rw [Lib.nDigits_small (by simpa using h)]; exact Nat.le_refl _
  | k + 1, u, h => by
    by_cases hu : u < 10
    · rw [Lib.nDigits_small hu]; omega
    · rw [Lib.nDigits_big hu]
      have := nDigits_le k (u / 10) (by rw [Nat.pow_succ] at h; omega)
      omega
theorem decDigits_digit (u : Nat) : ∀ b ∈ Lib.decDigits u, 48 ≤ b.toNat ∧ b.toNat ≤ 57 := by
  induction u using Nat.strongRecOn with
  | _ u ih =>
    rw [Lib.decDigits]
    split
    · rename_i h
      intro b hb
      simp only [List.mem_singleton] at hb
      subst hb
      have : (UInt8.ofNat (48 + u)).toNat = 48 + u := by simp; omega
      omega
    · rename_i h
      intro b hb
      rcases List.mem_append.1 hb with hb | hb
      · exact ih (u / 10) (by omega) b hb
      · simp only [List.mem_singleton] at hb
        subst hb
        have : (UInt8.ofNat (48 + u % 10)).toNat = 48 + u % 10 := by simp; omega
        omega
theorem decDigits_ne (u : Nat) : Lib.decDigits u ≠ [] := by
  rw [Lib.decDigits]; split <;> simp
theorem parse_append : ∀ (l r : Bs) (a : Nat), Lib.parseUint10 a (l ++ r) = match Lib.parseUint10 a l with | .ok v => Lib.parseUint10 v r | .«syntax» => .«syntax» | .range => .range
  | [], r, a => by simp [Lib.parseUint10]
  | c :: l, r, a => by
    simp only [List.cons_append, Lib.parseUint10]
    split
    · split
      · rfl
      · split
        · rfl
        · exact parse_append l r _
    · rfl
theorem parse_digits (u : Nat) (h : u < 18446744073709551616) : Lib.parseUint10 0 (Lib.decDigits u) = .ok u := by
  induction u using Nat.strongRecOn with
  | _ u ih =>
    rw [Lib.decDigits]
    split
    · rename_i hu
      have e : (UInt8.ofNat (48 + u)).toNat = 48 + u := by simp; omega
      simp only [Lib.parseUint10, e]
      rw [if_pos (by omega), if_neg (by omega), if_neg (by omega)]
      congr 1; omega
    · rename_i hu
      rw [parse_append, ih (u / 10) (by omega) (by omega)]
      have e : (UInt8.ofNat (48 + u % 10)).toNat = 48 + u % 10 := by simp; omega
      simp only [Lib.parseUint10, e]
      rw [if_pos (by omega), if_neg (by omega), if_neg (by omega)]
      congr 1; omega
theorem parseMag_digits (u : Nat) (h : u < 18446744073709551616) : Lib.parseMag (Lib.decDigits u) = .ok u := by
  rw [Lib.parseMag, if_neg (decDigits_ne u), parse_digits u h]
theorem atoi_itoa {n : Int} (h : inI n) : Lib.atoiAll (Lib.itoa n) = .ok n := by
  obtain ⟨h0, h1⟩ := h
  by_cases hn : n < 0
  · obtain ⟨u, rfl⟩ : ∃ u : Nat, n = -(u : Int) := ⟨n.natAbs, by omega⟩
    rw [Lib.itoa_neg u (by omega)]
    have e45 : (45 : UInt8).toNat = 45 := rfl
    simp only [Lib.atoiAll, e45]
    simp only [or_true, if_true, parseMag_digits u (show u < 18446744073709551616 by omega), not_true, false_and, if_false, true_and]
    rw [if_neg (by omega)]
  · obtain ⟨u, rfl⟩ : ∃ u : Nat, n = u := ⟨n.toNat, by omega⟩
    rw [Lib.itoa_nonneg]
    cases hd : Lib.decDigits u with
    | nil => exact absurd hd (decDigits_ne u)
    | cons c r =>
      have hc := decDigits_digit u c (by rw [hd]; simp)
      simp only [Lib.atoiAll]
      rw [if_neg (by omega), ← hd, parseMag_digits u (by omega)]
      simp only [show (c.toNat = 45) = False from by simp; omega, not_false_eq_true, true_and, false_and, if_false]
      rw [if_neg (by omega)]
theorem atoi_in {l : Bs} {n : Int} (h : Lib.atoiAll l = .ok n) : inI n := by
  cases l with
  | nil => simp [Lib.atoiAll] at h
  | cons c r =>
    simp only [Lib.atoiAll] at h
    split at h
    · cases h
    · cases h
    · rename_i u hu
      split at h
      · cases h
      split at h
      · cases h
      have hlt := Lib.parseMag_lt hu
      injection h with h
      subst h
      unfold inI
      split <;> omega
theorem itoa_len {n : Int} (h : inI n) : (Lib.itoa n).length ≤ 20 ∧ 1 ≤ (Lib.itoa n).length := by
  obtain ⟨h0, h1⟩ := h
  by_cases hn : n < 0
  · obtain ⟨u, rfl⟩ : ∃ u : Nat, n = -(u : Int) := ⟨n.natAbs, by omega⟩
    rw [Lib.itoa_neg u (by omega), List.length_cons, Lib.decDigits_length]
    have := nDigits_le 18 u (by simp; omega)
    omega
  · obtain ⟨u, rfl⟩ : ∃ u : Nat, n = u := ⟨n.toNat, by omega⟩
    rw [Lib.itoa_nonneg, Lib.decDigits_length]
    have := nDigits_le 18 u (by simp; omega)
    have := Lib.nDigits_pos u
    omega
theorem itoa_byte {n : Int} : ∀ b ∈ Lib.itoa n, b.toNat ≤ 57 := by
  intro b hb
  by_cases hn : n < 0
  · obtain ⟨u, rfl⟩ : ∃ u : Nat, n = -(u : Int) := ⟨n.natAbs, by omega⟩
    rw [Lib.itoa_neg u (by omega)] at hb
    rcases List.mem_cons.1 hb with rfl | hb
    · decide
    · exact (decDigits_digit u b hb).2
  · obtain ⟨u, rfl⟩ : ∃ u : Nat, n = u := ⟨n.toNat, by omega⟩
    rw [Lib.itoa_nonneg] at hb
    exact (decDigits_digit u b hb).2
theorem itoa_inj {n m : Int} (hn : inI n) (hm : inI m) (h : Lib.itoa n = Lib.itoa m) : n = m := by
  have h1 := atoi_itoa hn
  rw [h, atoi_itoa hm] at h1
  injection h1 with h1
  exact h1.symm
theorem indexByte_app {e : UInt8} : ∀ (l r : Bs), e ∉ l → Lib.indexByte (l ++ e :: r) e = (l.length : Int)
  | [], r, _ => by simp [Lib.indexByte]
  | b :: l, r, h => by
    have hb : ¬ b = e := fun q => h (by simp [q])
    have := indexByte_app (e := e) l r (fun q => h (List.mem_cons_of_mem _ q))
    simp only [List.cons_append, Lib.indexByte, this]
    rw [if_neg (by simpa using hb), if_neg (by simp)]
    simp

/-- what 'number' reads: the number and the rest -/
def numP (e : UInt8) (least : Int) (rest : Bs) : Option (Int × Bs) :=
  if Lib.indexByte (rest.take 21) e < 0 then none
  else match Lib.atoiAll ((rest.take 21).take (Lib.indexByte (rest.take 21) e).toNat) with
    | .ok n => if Lib.itoa n = (rest.take 21).take (Lib.indexByte (rest.take 21) e).toNat ∧ least ≤ n then some (n, rest.drop ((Lib.indexByte (rest.take 21) e).toNat + 1)) else none
    | _ => none
theorem numP_enc {e : UInt8} {least n : Int} {r : Bs} (he : 57 < e.toNat) (hn : inI n) (hl : least ≤ n) : numP e least (Lib.itoa n ++ e :: r) = some (n, r) := by
  have hlen := itoa_len hn
  have hmem : e ∉ Lib.itoa n := fun q => by have := itoa_byte e q; omega
  have ht : (Lib.itoa n ++ e :: r).take 21 = Lib.itoa n ++ e :: r.take (20 - (Lib.itoa n).length) := by
    rw [List.take_append, List.take_of_length_le (by omega), show 21 - (Lib.itoa n).length = (20 - (Lib.itoa n).length) + 1 by omega, List.take_succ_cons]
  have hi : Lib.indexByte ((Lib.itoa n ++ e :: r).take 21) e = ((Lib.itoa n).length : Int) := by rw [ht]; exact indexByte_app _ _ hmem
  have ht2 : ((Lib.itoa n ++ e :: r).take 21).take (Lib.itoa n).length = Lib.itoa n := by rw [ht, List.take_left']; rfl
  unfold numP
  rw [hi, if_neg (by omega)]
  rw [Int.toNat_natCast, ht2, atoi_itoa hn]
  dsimp only
  rw [if_pos ⟨rfl, hl⟩, List.drop_append, List.drop_eq_nil_of_le (by omega), show (Lib.itoa n).length + 1 - (Lib.itoa n).length = 1 by omega]
  rfl
theorem numP_some {e : UInt8} {least n : Int} {rest r : Bs} (h : numP e least rest = some (n, r)) : rest = Lib.itoa n ++ e :: r ∧ inI n ∧ least ≤ n := by
  unfold numP at h
  split at h
  · cases h
  · rename_i hneg
    split at h
    · rename_i m hm
      split at h
      · rename_i hc
        injection h with h
        injection h with h1 h2
        subst h1
        obtain ⟨o, ho⟩ : ∃ o : Nat, Lib.indexByte (rest.take 21) e = o := ⟨(Lib.indexByte (rest.take 21) e).toNat, by omega⟩
        rw [ho, Int.toNat_natCast] at hc h2 hm
        have h3 := (Lib.indexByte_some ho).1
        have h4 : o < 21 ∧ rest[o]? = some e := by
          have := (List.getElem?_eq_some_iff.1 h3).1
          simp at this
          rw [List.getElem?_take, if_pos (by omega)] at h3
          exact ⟨by omega, h3⟩
        refine ⟨?_, atoi_in hm, hc.2⟩
        rw [hc.1, ← h2, List.take_take, Nat.min_eq_left (by omega)]
        have h5 := (List.getElem?_eq_some_iff.1 h4.2)
        rw [← h5.2, List.getElem_cons_drop, List.take_append_drop]
      · cases h
    · cases h
theorem numP_len {e : UInt8} {least n : Int} {rest r : Bs} (h : numP e least rest = some (n, r)) : r.length + 2 ≤ rest.length ∧ rest.length ≤ r.length + 21 := by
  obtain ⟨h1, h2, _⟩ := numP_some h
  have := itoa_len h2
  rw [h1]; simp; omega
theorem enc_inj {e : UInt8} {n m : Int} {r s : Bs} (he : 57 < e.toNat) (hn : inI n) (hm : inI m) (h : Lib.itoa n ++ e :: r = Lib.itoa m ++ e :: s) : n = m ∧ r = s := by
  have h1 := numP_enc (least := -9223372036854775808) (r := r) he hn hn.1
  rw [h, numP_enc he hm hm.1] at h1
  injection h1 with h1
  injection h1 with h1 h2
  exact ⟨h1.symm, h2.symm⟩

section
variable {P : Program} {n : Nat} {ops : Array Oper} {Q : Exit → Act → World → Prop} {rest : List Oper} {L : Env} {w : World} {d : Nat} {ty : TypeId} {pos : String} {aft : Array Edge}
def isIface (P : Program) (t : Nat) : Bool := match P.underlying t with | some (.interface _) => true | _ => false
theorem ev_neqIfNil {x : Operand} {t t2 : TypeId} {v : Value} {g : Bool} (hu : isIface P t = true) (hv : (v = .nilIface ∧ g = false) ∨ ∃ a b, v = .iface a b ∧ g = true) (hx : M.look L x = some v) : Ev P L w ⟨some d, .binOp .neq t x (.const .nilIface) t2, ty, pos, aft, none⟩ (.bool g) := fun ρ hρ => by
  have hy : ρ (.const .nilIface) = .nilIface := hρ _ _ rfl
  unfold isIface at hu
  cases hq : P.underlying t with
  | none => rw [hq] at hu; cases hu
  | some dsc =>
    rw [hq] at hu
    cases dsc <;> simp at hu
    rcases hv with ⟨rfl, rfl⟩ | ⟨a, b, rfl, rfl⟩
    · have hr : (Op.equal t .nilIface .nilIface).run P w = .ok true w := by
        unfold Op.equal Op.maxDepth Op.equalIn
        simp only [Sem.run_bind, run_underlying hq, Result.andThen]
        rfl
      simp [execOp, hρ _ _ hx, hy, eqGuard, binOp, hr]
    · have hr : (Op.equal t (.iface a b) .nilIface).run P w = .ok false w := by
        unfold Op.equal Op.maxDepth Op.equalIn
        simp only [Sem.run_bind, run_underlying hq, Result.andThen]
        rfl
      simp [execOp, hρ _ _ hx, hy, eqGuard, binOp, hr]
theorem wl_neqIfNil {x : Operand} {t t2 : TypeId} {v : Value} {g : Bool} (hu : isIface P t = true) (hv : (v = .nilIface ∧ g = false) ∨ ∃ a b, v = .iface a b ∧ g = true) (hx : M.look L x = some v) (hd : Nat.blt d n = true) (hk : wl P n ops Q rest ((d, .bool g) :: L) w) : wl P n ops Q (⟨some d, .binOp .neq t x (.const .nilIface) t2, ty, pos, aft, none⟩ :: rest) L w := wl_val hd (ev_neqIfNil hu hv hx) hk
end
end Go.Proofs.YtcbdclhoekokpaaGreatDoor
