/- disk: what a disk is, in plain data, and how it lies in memory. -/
import Derived.Test.YtcbdclhoekokpaaGreatDoorOp4
namespace Go.Proofs.YtcbdclhoekokpaaGreatDoor
open Go.RowKit M

abbrev Bytes := List UInt8
structure DS where
  F : Int → Bytes × Bytes
  Q : List (Int × Int)
  lost : Int
  down : Bool
  armed : Int
  keep : List Int

/-- bytes put into a string -/
def putB (s : Bytes) (at_ : Nat) (t : Bytes) : Bytes := if t = [] then s else (s ++ List.replicate (at_ - s.length) 0).take at_ ++ t ++ s.drop (at_ + t.length)

def mayE (D : DS) (f : Int) : Int := if D.down then 9 else if f < 0 ∨ 16 ≤ f then 1 else 0
def endsB (D : DS) : Bool := !D.down && decide (D.armed = 1)
def endsD (D : DS) : DS := if D.down = true ∨ D.armed = 0 then D else { D with armed := D.armed - 1 }
def setF (F : Int → Bytes × Bytes) (f : Int) (x : Bytes × Bytes) : Int → Bytes × Bytes := fun k => if k = f then x else F k
/-- the sectors from n on, k of them, are pending too -/
def pend (f : Int) : Nat → Int → List (Int × Int) → List (Int × Int)
  | 0, _, Q => Q
  | k + 1, n, Q => pend f k (n + 1) (if (f, n) ∈ Q then Q else Q ++ [(f, n)])
def addD (D : DS) (f at_ : Int) (s : Bytes) : DS :=
  if s = [] then D else { D with F := setF D.F f (putB (D.F f).1 at_.toNat s, (D.F f).2), Q := pend f ((at_ + s.length - 1) / 64 - at_ / 64 + 1).toNat (at_ / 64) D.Q }
/-- what a write returns, if the machine is up, and the crash does not come -/
def writeE (D : DS) (f at_ : Int) (s : Bytes) : Int := if mayE D f ≠ 0 then mayE D f else if at_ < 0 then 1 else if 16777216 < at_ ∨ 16777216 - at_ < s.length then 6 else 0
def writeD (D : DS) (f at_ : Int) (s : Bytes) : DS := if writeE D f at_ s = 0 then addD D f at_ s else D
def survive (F : Int → Bytes × Bytes) (p : Int × Int) : Int → Bytes × Bytes :=
  if (F p.1).1.length ≤ 64 * p.2 then F else setF F p.1 ((F p.1).1, putB (F p.1).2 (64 * p.2).toNat (((F p.1).1.drop (64 * p.2).toNat).take 64))
def survives (keep : List Int) : Nat → List (Int × Int) → (Int → Bytes × Bytes) → (Int → Bytes × Bytes)
  | _, [], F => F
  | i, p :: Q, F => survives keep (i + 1) Q (if keep ≠ [] ∧ (keep.getD (i % keep.length) 0) % 2 = 1 then survive F p else F)
def crashD (D : DS) (keep : List Int) : DS :=
  if D.down then D else { D with down := true, armed := 0, F := fun k => let x := survives keep 0 D.Q D.F k; (x.2, x.2), Q := [] }
def settleD (D : DS) (f : Int) (s : Bytes) : DS := { D with F := setF D.F f (s, s), Q := D.Q.filter fun p => p.1 ≠ f }
def lateD (D : DS) : DS := if endsB D then crashD (endsD D) D.keep else endsD D
def WriteE (D : DS) (f at_ : Int) (s : Bytes) : Int := if endsB D then 9 else writeE (endsD D) f at_ s
def WriteD (D : DS) (f at_ : Int) (s : Bytes) : DS := let D1 := writeD (endsD D) f at_ s; if endsB D then crashD D1 D.keep else D1
def SyncE (D : DS) (f : Int) : Int := if mayE (lateD D) f ≠ 0 then mayE (lateD D) f else if 0 < (lateD D).lost then 10 else 0
def SyncD (D : DS) (f : Int) : DS := if mayE (lateD D) f ≠ 0 then lateD D else if 0 < (lateD D).lost then { lateD D with lost := (lateD D).lost - 1 } else settleD (lateD D) f ((lateD D).F f).1
def TruncE (D : DS) (f size : Int) : Int := if mayE (lateD D) f ≠ 0 then mayE (lateD D) f else if size < 0 ∨ (((lateD D).F f).1.length : Int) < size then 1 else 0
def TruncD (D : DS) (f size : Int) : DS := if TruncE D f size = 0 then settleD (lateD D) f (((lateD D).F f).1.take size.toNat) else lateD D
def ReadE (D : DS) (f at_ size : Int) : Int := if mayE D f ≠ 0 then mayE D f else if at_ < 0 ∨ size < 0 then 1 else 0
def ReadS (D : DS) (f at_ size : Int) : Bytes := if ReadE D f at_ size = 0 then ((D.F f).1.drop at_.toNat).take size.toNat else []

structure DInv (D : DS) : Prop where
  now : ∀ k, (D.F k).1.length ≤ 16777216
  last : ∀ k, (D.F k).2.length ≤ 16777216
  nodup : D.Q.Nodup
  secs : ∀ p ∈ D.Q, (0 ≤ p.1 ∧ p.1 < 16) ∧ 0 ≤ p.2 ∧ p.2 ≤ 262144
  lost : 0 ≤ D.lost ∧ D.lost ≤ 9223372036854775807
  armed : 0 ≤ D.armed ∧ D.armed ≤ 9223372036854775807

def fileV (x : Bytes × Bytes) : Value := .agg #[strV x.1, strV x.2]
def secV (Q : List (Int × Int)) : List Value := Q.flatMap fun p => [intV p.1, intV p.2]
structure DL where
  bf : Nat
  bs : Nat
  qv : Value
def cellsD (L : DL) (kp : Value) (D : DS) : List Value := [.map (some L.bf), L.qv, .map (some L.bs), intV D.lost, .bool D.down, intV D.armed, kp]
/-- the map of the files says F -/
def SaysF (g : Int → Option Value) (F : Int → Bytes × Bytes) : Prop := ∀ k, (g k).getD (fileV ([], [])) = fileV (F k)
def filesT (b : Nat) (F : Int → Bytes × Bytes) : Th := exT fun g : Int → Option Value => starL [pureT (SaysF g F), mapT intK b g]
def setT (b : Nat) (Q : List (Int × Int)) : Th := exT fun g : Int × Int → Option Value => starL [pureT (∀ p, g p = if p ∈ Q then some (.bool true) else none), mapT pairK b g]
/-- the list of numbers that a slice of numbers reads as -/
def RdI (v : Value) (l : List Int) (w : World) : Prop := ∃ ao cap, v = .slice ao l.length cap ∧ l.length ≤ 9223372036854775807 ∧ ∀ i x, l[i]? = some x → ∃ b off, ao = some ⟨b, off, none⟩ ∧ w.cell? ⟨b, off + i, none⟩ = some (intV x)
def diskT (p : Nat) (kp : Value) (D : DS) : Th := exT fun L : DL => starL [pureT (DInv D), blkT p (cellsD L kp D), filesT L.bf D.F, ownT L.qv D.Q.length 2 (secV D.Q), setT L.bs D.Q]

theorem diskT_open {w : World} {p : Nat} {kp : Value} {D : DS} {As : List Th} (h : Sat w (diskT p kp D :: As)) : ∃ L : DL, DInv D ∧ Sat w (blkT p (cellsD L kp D) :: filesT L.bf D.F :: ownT L.qv D.Q.length 2 (secV D.Q) :: setT L.bs D.Q :: As) := by
  obtain ⟨L, h⟩ := h.ex
  exact ⟨L, h.flat.pure_elim⟩
theorem diskT_shut {w : World} {p : Nat} {kp : Value} {D : DS} {As : List Th} (L : DL) (hi : DInv D) (h : Sat w (blkT p (cellsD L kp D) :: filesT L.bf D.F :: ownT L.qv D.Q.length 2 (secV D.Q) :: setT L.bs D.Q :: As)) : Sat w (diskT p kp D :: As) :=
  Sat.ex_intro L (Sat.fold (As := [pureT (DInv D), blkT p (cellsD L kp D), filesT L.bf D.F, ownT L.qv D.Q.length 2 (secV D.Q), setT L.bs D.Q]) (Sat.pure_intro hi h))
theorem filesT_open {w : World} {b : Nat} {F : Int → Bytes × Bytes} {As : List Th} (h : Sat w (filesT b F :: As)) : ∃ g, SaysF g F ∧ Sat w (mapT intK b g :: As) := by
  obtain ⟨L, h⟩ := h.ex
  exact ⟨L, h.flat.pure_elim⟩
theorem filesT_shut {w : World} {b : Nat} {F : Int → Bytes × Bytes} {As : List Th} (g : Int → Option Value) (hg : SaysF g F) (h : Sat w (mapT intK b g :: As)) : Sat w (filesT b F :: As) :=
  Sat.ex_intro g (Sat.fold (As := [pureT (SaysF g F), mapT intK b g]) (Sat.pure_intro hg h))
theorem setT_open {w : World} {b : Nat} {Q : List (Int × Int)} {As : List Th} (h : Sat w (setT b Q :: As)) : ∃ g : Int × Int → Option Value, (∀ p, g p = if p ∈ Q then some (.bool true) else none) ∧ Sat w (mapT pairK b g :: As) := by
  obtain ⟨L, h⟩ := h.ex
  exact ⟨L, h.flat.pure_elim⟩
theorem setT_shut {w : World} {b : Nat} {Q : List (Int × Int)} {As : List Th} (g : Int × Int → Option Value) (hg : ∀ p, g p = if p ∈ Q then some (.bool true) else none) (h : Sat w (mapT pairK b g :: As)) : Sat w (setT b Q :: As) :=
  Sat.ex_intro g (Sat.fold (As := [pureT (∀ p, g p = if p ∈ Q then some (.bool true) else none), mapT pairK b g]) (Sat.pure_intro hg h))

theorem bytesV_append (a b : Bytes) : bytesV (a ++ b) = bytesV a ++ bytesV b := by simp [bytesV]
theorem bytesV_take (a : Bytes) (k : Nat) : (bytesV a).take k = bytesV (a.take k) := by simp [bytesV]
theorem bytesV_drop (a : Bytes) (k : Nat) : (bytesV a).drop k = bytesV (a.drop k) := by simp [bytesV]
theorem bytesV_splice (X t : Bytes) (a : Nat) : splice (bytesV X) a (bytesV t) = bytesV (X.take a ++ t ++ X.drop (a + t.length)) := by
  simp [splice, bytesV_append, bytesV_take, bytesV_drop, bytesV_length]
theorem zeros_made (m : Nat) : (List.replicate m (Value.int .u8 0).cells.toList).flatten = bytesV (List.replicate m 0) := by
  have : (Value.int .u8 0).cells.toList = [.int .u8 0] := rfl
  rw [this, flat1]; simp [bytesV]
def fillB (s : Bytes) (m : Nat) : Bytes := s ++ List.replicate (m - s.length) 0
theorem put1 (s : Bytes) (m : Nat) (h : s.length ≤ m) : splice (bytesV (List.replicate m 0)) 0 (bytesV (s.take m)) = bytesV (fillB s m) := by
  rw [bytesV_splice, List.take_of_length_le h]
  simp [fillB]
theorem put2 (s t : Bytes) (a : Nat) (ht : t ≠ []) : (fillB s (max s.length (a + t.length))).take a ++ t ++ (fillB s (max s.length (a + t.length))).drop (a + t.length) = putB s a t := by
  unfold putB fillB
  rw [if_neg ht]
  congr 1
  · congr 1
    apply List.ext_getElem?
    intro i
    simp only [List.getElem?_take]
    by_cases hi : i < a
    · simp only [hi, if_true]
      by_cases h2 : i < s.length
      · rw [List.getElem?_append_left h2, List.getElem?_append_left h2]
      · rw [List.getElem?_append_right (by omega), List.getElem?_append_right (by omega), List.getElem?_replicate, List.getElem?_replicate, if_pos (by omega), if_pos (by omega)]
    · simp [hi]
  · by_cases h : s.length ≤ a + t.length
    · rw [List.drop_eq_nil_of_le h, List.drop_eq_nil_of_le (by simp; omega)]
    · rw [show max s.length (a + t.length) - s.length = 0 by omega]; simp
theorem putB_length (s t : Bytes) (a : Nat) (ht : t ≠ []) : (putB s a t).length = max s.length (a + t.length) := by
  rw [← put2 s t a ht]; simp [fillB]; omega
theorem putB_nil (s : Bytes) (a : Nat) : putB s a [] = s := by simp [putB]
theorem putB_le {s t : Bytes} {a m : Nat} (h1 : s.length ≤ m) (h2 : a + t.length ≤ m) : (putB s a t).length ≤ m := by
  by_cases ht : t = []
  · subst ht; rw [putB_nil]; exact h1
  · rw [putB_length s t a ht]; omega
end Go.Proofs.YtcbdclhoekokpaaGreatDoor
