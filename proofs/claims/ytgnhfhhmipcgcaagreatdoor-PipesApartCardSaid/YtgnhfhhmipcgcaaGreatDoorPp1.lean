/- pipes, in plain data: the calls -/
import Derived.Test.YtgnhfhhmipcgcaaGreatDoorPp0
import Derived.Test.YtgnhfhhmipcgcaaGreatDoorWd
namespace Go.Proofs.YtgnhfhhmipcgcaaGreatDoor
open Go.RowKit M
set_option linter.unusedVariables false
def kP (id : Bs) : Bs := 112 :: 47 :: id
theorem kP_inj {a b : Bs} : kP a = kP b ↔ a = b := by simp [kP]
def gP (W : WS) (id : Bs) : Option PipeD := if id = [] then none else getP (W.cells (kP id))
structure OkP (p : PipeD) : Prop where
  d : p.d.length ≤ 64
  r : 0 ≤ p.r ∧ p.r ≤ 9223372036854775807
  w : 0 ≤ p.w ∧ p.w ≤ 9223372036854775807
theorem getP_ok {c : Bs} {p : PipeD} (h : getP c = some p) : OkP p := by
  unfold getP at h
  dsimp only at h
  split at h
  · rename_i hc
    obtain ⟨h1, h2, h3, h4, h5⟩ := hc
    obtain ⟨g1, g2, g3⟩ := num_ok h1
    have g4 : (numR 59 imin (txtR (c, false))).2 = false := by rw [g1]
    obtain ⟨k1, k2, k3⟩ := num_ok g4
    unfold inI at g2 k2
    cases h
    exact ⟨h3, ⟨h4, by dsimp only; omega⟩, ⟨h5, by dsimp only; omega⟩⟩
  · cases h
theorem gP_ok {W : WS} {id : Bs} {p : PipeD} (h : gP W id = some p) : OkP p := by
  unfold gP at h
  split at h
  · cases h
  · exact getP_ok h
theorem gP_id {W : WS} {id : Bs} {p : PipeD} (h : gP W id = some p) : id ≠ [] := fun e => by unfold gP at h; rw [if_pos e] at h; cases h
def setP (W : WS) (id : Bs) (p : PipeD) : WS := putS W (kP id) (encP p)
theorem gP_set {W : WS} {id : Bs} {p : PipeD} (hi : id ≠ []) (h : OkP p) : gP (setP W id p) id = some p := by
  unfold gP setP putS updC
  rw [if_neg hi]
  simp only [if_true]
  exact get_enc h.d h.r h.w
theorem gP_ne {W : WS} {id o : Bs} {c : Bs} (h : o ≠ id) : gP (putS W (kP id) c) o = gP W o := by
  unfold gP putS updC
  split
  · rfl
  · dsimp only; rw [if_neg (fun e => h (kP_inj.1 e))]
theorem getP_nil : getP [] = none := by
  unfold getP
  have h1 : numP 58 0 [] = none := num_neg (by simp [Lib.indexByte])
  have h2 := num_none (s := ([], false)) h1
  have h3 : txtR ([], false) = ([], true) := by
    unfold txtR; rw [h2.1, h2.2]; simp [cutV]
  have h4 : ∀ (e : UInt8) (l : Int), numP e l [] = none := fun e l => num_neg (by simp [Lib.indexByte])
  dsimp only
  rw [h3, (num_none (s := ([], true)) (h4 59 imin)).2, (num_none (s := ([], true)) (h4 59 imin)).2]
  rw [if_neg (by rintro ⟨q, _⟩; cases q)]
theorem gP_del {W : WS} {id : Bs} : gP (putS W (kP id) []) id = none := by
  unfold gP putS updC
  split
  · rfl
  · simp only [if_true]; exact getP_nil
/-- one more, or one less, of an end -/
def addE (p : PipeD) (wr : Bool) (n : Int) : PipeD := if wr = true then { p with w := IntKind.i64.wrap (p.w + n) } else { p with r := IntKind.i64.wrap (p.r + n) }
def endE (p : PipeD) (wr : Bool) : Int := if wr = true then p.w else p.r
def openE (W : WS) (id : Bs) : Int := match gP W id with | none => 4 | some _ => 0
def openP (W : WS) (id : Bs) (wr : Bool) : WS := match gP W id with | none => W | some p => setP W id (addE p wr 1)
def closeE (W : WS) (id : Bs) (wr : Bool) : Int := match gP W id with | none => 4 | some p => if endE p wr = 0 then 7 else 0
def closeP (W : WS) (id : Bs) (wr : Bool) : WS := match gP W id with | none => W | some p => if endE p wr = 0 then W else if (addE p wr (-1)).r = 0 ∧ (addE p wr (-1)).w = 0 then putS W (kP id) [] else setP W id (addE p wr (-1))
/-- what a read gives: the bytes, and how it went -/
def readV (W : WS) (id : Bs) (n : Int) : Bs × Int := match gP W id with | none => ([], 1) | some p => if n < 1 then ([], 0) else if p.d = [] ∧ p.w = 0 then ([], 1) else if p.d = [] then ([], 2) else (p.d.take (min n p.d.length).toNat, 0)
def readP (W : WS) (id : Bs) (n : Int) : WS := match gP W id with | none => W | some p => if n < 1 ∨ p.d = [] then W else setP W id { p with d := p.d.drop (min n p.d.length).toNat }
def writeV (W : WS) (id s : Bs) : Int × Int := match gP W id with | none => (0, 4) | some p => if p.r = 0 then (0, 4) else if s = [] then (0, 0) else if 64 - (p.d.length : Int) = 0 ∨ (64 - (p.d.length : Int) < s.length ∧ s.length ≤ 64) then (0, 3) else (min (s.length : Int) (64 - p.d.length), 0)
def writeP (W : WS) (id s : Bs) : WS := match gP W id with | none => W | some p => if p.r = 0 ∨ s = [] ∨ (64 - (p.d.length : Int) = 0 ∨ (64 - (p.d.length : Int) < s.length ∧ s.length ≤ 64)) then W else setP W id { p with d := p.d ++ s.take (min (s.length : Int) (64 - p.d.length)).toNat }
def canB (W : WS) (id : Bs) (wr : Bool) (n : Int) : Bool := match gP W id with | none => true | some p => if n < 1 then true else if wr = true then decide (p.r = 0 ∨ n ≤ 64 - (p.d.length : Int) ∨ (64 < n ∧ 0 < 64 - (p.d.length : Int))) else decide (p.d ≠ [] ∨ p.w = 0)
def mkE (W : WS) (id : Bs) (k : Nat) : Int := if id = [] then 1 else match gP W id with | some _ => 5 | none => if 64 ≤ k then 6 else 0
def mkP (W : WS) (id : Bs) (k : Nat) : WS := if mkE W id k = 0 then setP W id ⟨[], 0, 0⟩ else W
theorem readP_ok {W : WS} {id : Bs} {n : Int} {p : PipeD} (h : gP W id = some p) : ∃ q, gP (readP W id n) id = some q ∧ (readV W id n).1 ++ q.d = p.d ∧ q.r = p.r ∧ q.w = p.w := by
  have ho := gP_ok h
  unfold readP readV
  rw [h]
  dsimp only
  by_cases h1 : n < 1
  · rw [if_pos (.inl h1), if_pos h1]; exact ⟨p, h, rfl, rfl, rfl⟩
  by_cases h2 : p.d = []
  · rw [if_pos (.inr h2), if_neg h1]
    refine ⟨p, h, ?_, rfl, rfl⟩
    split
    · rfl
    · rfl
  · rw [if_neg (by rintro (q | q); exact h1 q; exact h2 q), if_neg h1, if_neg (fun q => h2 q.1), if_neg h2]
    refine ⟨_, gP_set (gP_id h) ⟨?_, ho.r, ho.w⟩, List.take_append_drop _ _, rfl, rfl⟩
    have := ho.d
    simp only [List.length_drop]; omega
theorem writeP_ok {W : WS} {id s : Bs} {p : PipeD} (h : gP W id = some p) : ∃ q, gP (writeP W id s) id = some q ∧ q.d = p.d ++ s.take (writeV W id s).1.toNat ∧ q.r = p.r ∧ q.w = p.w ∧ 0 ≤ (writeV W id s).1 ∧ (writeV W id s).1 ≤ s.length := by
  have ho := gP_ok h
  have hd := ho.d
  unfold writeP writeV
  rw [h]
  dsimp only
  by_cases h1 : p.r = 0
  · rw [if_pos (.inl h1), if_pos h1]; exact ⟨p, h, by simp, rfl, rfl, by simp, by simp⟩
  by_cases h2 : s = []
  · rw [if_pos (.inr (.inl h2)), if_neg h1, if_pos h2]; exact ⟨p, h, by simp, rfl, rfl, by simp, by simp⟩
  by_cases h3 : 64 - (p.d.length : Int) = 0 ∨ (64 - (p.d.length : Int) < s.length ∧ s.length ≤ 64)
  · rw [if_pos (.inr (.inr h3)), if_neg h1, if_neg h2, if_pos h3]; exact ⟨p, h, by simp, rfl, rfl, by simp, by simp⟩
  · rw [if_neg (by rintro (q | q | q); exact h1 q; exact h2 q; exact h3 q), if_neg h1, if_neg h2, if_neg h3]
    refine ⟨_, gP_set (gP_id h) ⟨?_, ho.r, ho.w⟩, rfl, rfl, rfl, by dsimp only; omega, by dsimp only; omega⟩
    simp only [List.length_append, List.length_take]; omega
end Go.Proofs.YtgnhfhhmipcgcaaGreatDoor
