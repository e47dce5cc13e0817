/- cell: what a cell is, in plain data, and what Open and Set do. -/
import Derived.Test.YtleaahajkncnpaaDoorRf3
namespace Go.Proofs.YtleaahajkncnpaaDoor
open Go.RowKit M

structure CS where
  f : Int
  slot : Nat
  val : Bytes
  sure : Bool
def cellV (p : Nat) (C : CS) : List Value := [ptrV p 0, intV C.f, intV (C.slot : Int), strV C.val, .bool C.sure]
def slotOff (s : Nat) : Int := if s = 2 then 131072 else 64
def newC (f : Int) : CS := ⟨f, 0, [], false⟩
def hdrN (b1 b2 b3 b4 : UInt8) : Nat := b1.toNat + 256 * b2.toNat + 65536 * b3.toNat + 16777216 * b4.toNat
/-- the header as it is read -/
inductive Hd where
  | none | bad | slot (s : Nat) (n : Nat)
def hdrOf (h : Bytes) : Hd :=
  match h with
  | [] => .none
  | b0 :: r => if b0 = 0 then .none else
    match r with
    | [b1, b2, b3, b4] => if (b0 = 1 ∨ b0 = 2) ∧ hdrN b1 b2 b3 b4 ≤ 65536 then .slot b0.toNat (hdrN b1 b2 b3 b4) else .bad
    | _ => .bad
def hdrB (slot n : Nat) : Bytes := [UInt8.ofNat slot, UInt8.ofNat n, UInt8.ofNat (n / 256), UInt8.ofNat (n / 65536), 0]
def openE (D : DS) (f : Int) : Int :=
  if ReadE D f 0 5 ≠ 0 then ReadE D f 0 5 else
  match hdrOf (ReadS D f 0 5) with
  | .none => 0
  | .bad => 2
  | .slot s n => if (ReadS D f (slotOff s) n).length < n then 2 else 0
def openC (D : DS) (f : Int) : CS :=
  match hdrOf (ReadS D f 0 5) with
  | .slot s n => ⟨f, s, ReadS D f (slotOff s) n, false⟩
  | _ => newC f
def other (C : CS) : Nat := if C.slot = 1 then 2 else 1
structure SR where
  e : Int
  D : DS
  C : CS
def setR2 (D : DS) (C : CS) (s : Bytes) : SR :=
  let D1 := WriteD D C.f (slotOff (other C)) s
  if WriteE D C.f (slotOff (other C)) s ≠ 0 then ⟨WriteE D C.f (slotOff (other C)) s, D1, C⟩ else
  let D2 := SyncD D1 C.f
  if SyncE D1 C.f ≠ 0 then ⟨SyncE D1 C.f, D2, C⟩ else
  let D3 := WriteD D2 C.f 0 (hdrB (other C) s.length)
  if WriteE D2 C.f 0 (hdrB (other C) s.length) ≠ 0 then ⟨WriteE D2 C.f 0 (hdrB (other C) s.length), D3, C⟩ else
  ⟨SyncE D3 C.f, SyncD D3 C.f, ⟨C.f, other C, s, decide (SyncE D3 C.f = 0)⟩⟩
def setR (D : DS) (C : CS) (s : Bytes) : SR :=
  if 65536 < s.length then ⟨6, D, C⟩ else
  if C.sure = false ∧ 0 < C.slot then
    (if SyncE D C.f ≠ 0 then ⟨SyncE D C.f, SyncD D C.f, C⟩ else setR2 (SyncD D C.f) { C with sure := true } s)
  else setR2 D C s
/-- the table of the offsets lies at g -/
def Glob (g : Nat) (w : World) : Prop := ∀ (j : Nat) (v : Value), [intV 0, intV 64, intV 131072][j]? = some v → w.cell? ⟨g, j, none⟩ = some v
theorem Glob.off {g s : Nat} {w : World} (h : Glob g w) (hs : s = 1 ∨ s = 2) : w.cell? ⟨g, 0 + s * 1, none⟩ = some (intV (slotOff s)) := by
  rw [Nat.zero_add, Nat.mul_one]
  rcases hs with rfl | rfl
  · exact h 1 _ rfl
  · exact h 2 _ rfl
theorem ReadE_same {D : DS} {f a b n m : Int} (h : ReadE D f a n = 0) (hb : 0 ≤ b) (hm : 0 ≤ m) : ReadE D f b m = 0 := by
  unfold ReadE at h ⊢
  split at h
  · rename_i h1; exact absurd h h1
  · rename_i h1
    rw [if_neg h1, if_neg (by omega)]
theorem slotOff_pos (s : Nat) : 0 ≤ slotOff s := by unfold slotOff; split <;> decide
theorem u8_lt (b : UInt8) : b.toNat < 256 := b.toNat_lt
theorem ReadS_len {D : DS} {f a n : Int} : ((ReadS D f a n).length : Int) ≤ max n 0 := by
  unfold ReadS; split
  · simp; omega
  · simp; omega
end Go.Proofs.YtleaahajkncnpaaDoor
