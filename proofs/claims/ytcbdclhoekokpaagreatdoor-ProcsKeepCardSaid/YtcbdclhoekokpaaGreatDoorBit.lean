/- Rules for shifts and for | of numbers whose bits lie apart. Conditions: each rule's own hypotheses. -/
import Derived.Test.YtcbdclhoekokpaaGreatDoorRow
namespace Go.Proofs.YtcbdclhoekokpaaGreatDoor.M
open Go.RowKit
section
variable {P : Program} {n : Nat} {ops : Array Oper} {Q : Exit → Act → World → Prop} {rest : List Oper} {L : Env} {w : World} {d : Nat} {ty : TypeId} {pos : String} {aft : Array Edge} {t t2 : TypeId} {x y : Operand} {a b : Int} {yk : IntKind}
theorem ev_shl (m : Nat) (hx : look L x = some (.int .i64 a)) (hy : look L y = some (.int yk b)) (hb : b = (m : Int)) (hm : Nat.ble m 64 = true) {q : Int} (hq : ((2 ^ m : Nat) : Int) = q) (h1 : -9223372036854775808 ≤ a * q) (h2 : a * q ≤ 9223372036854775807) : Ev P L w ⟨some d, .binOp .shl t x y t2, ty, pos, aft, none⟩ (.int .i64 (a * q)) := fun ρ hρ => by
  have hm' : m ≤ 64 := Nat.le_of_ble_eq_true hm
  subst hb
  have e : IntKind.i64.wrap (a * 2 ^ (min m 64)) = a * q := by
    have : (2 : Int) ^ (min m 64) = q := by rw [← hq, Nat.min_eq_left hm']; simp
    rw [this]; exact wrap64 h1 h2
  have h0 : ¬ ((m : Int) < 0) := by omega
  simp only [execOp, hρ _ _ hx, hρ _ _ hy, binOp, Op.shift, IntKind.bits, eqGuard, h0, if_false, Int.toNat_natCast, e]
  simp
theorem wl_shl (m : Nat) (hx : look L x = some (.int .i64 a)) (hy : look L y = some (.int yk b)) (hb : b = (m : Int)) (hm : Nat.ble m 64 = true) {q : Int} (hq : ((2 ^ m : Nat) : Int) = q) (h1 : -9223372036854775808 ≤ a * q) (h2 : a * q ≤ 9223372036854775807) (hd : Nat.blt d n = true) (hk : wl P n ops Q rest ((d, .int .i64 (a * q)) :: L) w) : wl P n ops Q (⟨some d, .binOp .shl t x y t2, ty, pos, aft, none⟩ :: rest) L w :=
  wl_val hd (ev_shl m hx hy hb hm hq h1 h2) hk
theorem ev_shr {k : IntKind} (m : Nat) (hx : look L x = some (.int k a)) (hy : look L y = some (.int yk b)) (hb : b = (m : Int)) (hm : Nat.ble m k.bits = true) {q : Int} (hq : ((2 ^ m : Nat) : Int) = q) : Ev P L w ⟨some d, .binOp .shr t x y t2, ty, pos, aft, none⟩ (.int k (a / q)) := fun ρ hρ => by
  have hm' : m ≤ k.bits := Nat.le_of_ble_eq_true hm
  subst hb
  have e : a.fdiv (2 ^ (min m k.bits)) = a / q := by
    have : (2 : Int) ^ (min m k.bits) = q := by rw [← hq, Nat.min_eq_left hm']; simp
    rw [this]; exact Int.fdiv_eq_ediv_of_nonneg _ (by rw [← hq]; exact Int.natCast_nonneg _)
  have h0 : ¬ ((m : Int) < 0) := by omega
  simp only [execOp, hρ _ _ hx, hρ _ _ hy, binOp, Op.shift, eqGuard, h0, if_false, Int.toNat_natCast, e]
  simp
theorem wl_shr {k : IntKind} (m : Nat) (hx : look L x = some (.int k a)) (hy : look L y = some (.int yk b)) (hb : b = (m : Int)) (hm : Nat.ble m k.bits = true) {q : Int} (hq : ((2 ^ m : Nat) : Int) = q) (hd : Nat.blt d n = true) (hk : wl P n ops Q rest ((d, .int k (a / q)) :: L) w) : wl P n ops Q (⟨some d, .binOp .shr t x y t2, ty, pos, aft, none⟩ :: rest) L w :=
  wl_val hd (ev_shr m hx hy hb hm hq) hk
theorem or_apart (A B m : Nat) (h : B < 2 ^ m) : A * 2 ^ m ||| B = A * 2 ^ m + B := by
  rw [Nat.mul_comm]; exact (Nat.two_pow_add_eq_or_of_lt h A).symm
/-- x | y: x a multiple of 2^m, y below -/
theorem ev_or (m : Nat) (A : Nat) (hx : look L x = some (.int .i64 a)) (hy : look L y = some (.int .i64 b)) (ha : a = (A : Int) * ((2 ^ m : Nat) : Int)) (hb : 0 ≤ b ∧ b < ((2 ^ m : Nat) : Int)) (h2 : a + b ≤ 9223372036854775807) : Ev P L w ⟨some d, .binOp .or t x y t2, ty, pos, aft, none⟩ (.int .i64 (a + b)) := fun ρ hρ => by
  obtain ⟨B, rfl⟩ := Int.eq_ofNat_of_zero_le hb.1
  subst ha
  have hB : B < 2 ^ m := by have := hb.2; omega
  have hA : ((A : Int) * ((2 ^ m : Nat) : Int)) = ((A * 2 ^ m : Nat) : Int) := by simp
  rw [hA] at h2
  have h3 : IntKind.i64.wrap (((A * 2 ^ m ||| B : Nat) : Int)) = ((A * 2 ^ m : Nat) : Int) + (B : Int) := by
    rw [or_apart A B m hB, Int.natCast_add]; exact wrap64 (by omega) h2
  have hx' := hρ _ _ hx
  rw [hA] at hx' ⊢
  have h4 : ((BitVec.ofInt 64 ((A * 2 ^ m : Nat) : Int)) ||| (BitVec.ofInt 64 (B : Int))).toNat = A * 2 ^ m ||| B := by
    rw [BitVec.toNat_or, BitVec.ofInt_natCast, BitVec.ofInt_natCast, BitVec.toNat_ofNat, BitVec.toNat_ofNat, Nat.mod_eq_of_lt (by omega), Nat.mod_eq_of_lt (by omega)]
  have h5 := h3
  rw [← h4] at h5
  simp only [execOp, hx', hρ _ _ hy, binOp, Op.intBits]
  simp only [IntKind.bits, eqGuard]
  simp only [BitVec.ofInt_natCast] at h5 ⊢
  simp [-BitVec.toNat_or] at h5 ⊢
  exact h5
theorem wl_or (m : Nat) (A : Nat) (hx : look L x = some (.int .i64 a)) (hy : look L y = some (.int .i64 b)) (ha : a = (A : Int) * ((2 ^ m : Nat) : Int)) (hb : 0 ≤ b ∧ b < ((2 ^ m : Nat) : Int)) (h2 : a + b ≤ 9223372036854775807) (hd : Nat.blt d n = true) (hk : wl P n ops Q rest ((d, .int .i64 (a + b)) :: L) w) : wl P n ops Q (⟨some d, .binOp .or t x y t2, ty, pos, aft, none⟩ :: rest) L w :=
  wl_val hd (ev_or m A hx hy ha hb h2) hk
/-- a byte as a number, a number as a byte -/
theorem ev_convU8 {sT dT : TypeId} {ds : TypeDesc} {c : UInt8} (hs : P.underlying sT = some ds) (ht : P.underlying dT = some (.int .i64)) (hx : look L x = some (.int .u8 (c.toNat : Int))) : Ev P L w ⟨some d, .convert sT dT x, ty, pos, aft, none⟩ (.int .i64 (c.toNat : Int)) :=
  ev_convII hs ht hx (by have := c.toNat_lt; exact wrap64 (by omega) (by omega))
theorem wl_convU8 {sT dT : TypeId} {ds : TypeDesc} {c : UInt8} (hs : P.underlying sT = some ds) (ht : P.underlying dT = some (.int .i64)) (hx : look L x = some (.int .u8 (c.toNat : Int))) (hd : Nat.blt d n = true) (hk : wl P n ops Q rest ((d, .int .i64 (c.toNat : Int)) :: L) w) : wl P n ops Q (⟨some d, .convert sT dT x, ty, pos, aft, none⟩ :: rest) L w := wl_val hd (ev_convU8 hs ht hx) hk
theorem wrap_u8 (m : Nat) : IntKind.u8.wrap (m : Int) = ((UInt8.ofNat m).toNat : Int) := by
  simp [IntKind.wrap, IntKind.signed, IntKind.bits]
theorem ev_convToU8 {sT dT : TypeId} {ds : TypeDesc} {k : IntKind} {a : Int} (m : Nat) (hs : P.underlying sT = some ds) (ht : P.underlying dT = some (.int .u8)) (hx : look L x = some (.int k a)) (ha : a = (m : Int)) : Ev P L w ⟨some d, .convert sT dT x, ty, pos, aft, none⟩ (.int .u8 ((UInt8.ofNat m).toNat : Int)) :=
  ev_convII hs ht hx (by rw [ha]; exact wrap_u8 m)
theorem wl_convToU8 {sT dT : TypeId} {ds : TypeDesc} {k : IntKind} {a : Int} (m : Nat) (hs : P.underlying sT = some ds) (ht : P.underlying dT = some (.int .u8)) (hx : look L x = some (.int k a)) (ha : a = (m : Int)) (hd : Nat.blt d n = true) (hk : wl P n ops Q rest ((d, .int .u8 ((UInt8.ofNat m).toNat : Int)) :: L) w) : wl P n ops Q (⟨some d, .convert sT dT x, ty, pos, aft, none⟩ :: rest) L w := wl_val hd (ev_convToU8 m hs ht hx ha) hk
end
end Go.Proofs.YtcbdclhoekokpaaGreatDoor.M
