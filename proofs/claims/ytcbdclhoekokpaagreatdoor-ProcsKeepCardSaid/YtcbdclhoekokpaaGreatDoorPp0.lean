/- pipes, in plain data -/
import Derived.Test.YtcbdclhoekokpaaGreatDoorRefw
import Derived.Test.YtcbdclhoekokpaaGreatDoorWr
namespace Go.Proofs.YtcbdclhoekokpaaGreatDoor
open Go.RowKit M
set_option linter.unusedVariables false
/-- what wire's reader makes of a byte that must stand there -/
def cutV (e : UInt8) (s : Bs × Bool) : Bs × Bool := match s.1 with | c :: r => if c = e then (r, s.2) else ([], true) | [] => ([], true)
/-- a text: its value, and the reader after it -/
def txtV (s : Bs × Bool) : Bs := if ((numR 58 0 s).1.length : Int) < numV 58 0 s then [] else if (cutV 44 ((numR 58 0 s).1.drop (numV 58 0 s).toNat, (numR 58 0 s).2)).2 = true then [] else (numR 58 0 s).1.take (numV 58 0 s).toNat
def txtR (s : Bs × Bool) : Bs × Bool := if ((numR 58 0 s).1.length : Int) < numV 58 0 s then ([], true) else cutV 44 ((numR 58 0 s).1.drop (numV 58 0 s).toNat, (numR 58 0 s).2)
def encT (s : Bs) : Bs := Lib.itoa (s.length : Int) ++ [58] ++ s ++ [44]
def imin : Int := -9223372036854775808
structure PipeD where
  d : Bs
  r : Int
  w : Int
def encP (p : PipeD) : Bs := encT p.d ++ (Lib.itoa p.r ++ [59]) ++ (Lib.itoa p.w ++ [59])
def getP (c : Bs) : Option PipeD :=
  let s1 := txtR (c, false)
  let s2 := numR 59 imin s1
  let s3 := numR 59 imin s2
  if s3.2 = false ∧ s3.1 = [] ∧ (txtV (c, false)).length ≤ 64 ∧ 0 ≤ numV 59 imin s1 ∧ 0 ≤ numV 59 imin s2 then some ⟨txtV (c, false), numV 59 imin s1, numV 59 imin s2⟩ else none
theorem numP_cons {e : UInt8} {least m : Int} {rest : Bs} (he : 57 < e.toNat) (hm : inI m) (hl : least ≤ m) : numP e least (Lib.itoa m ++ e :: rest) = some (m, rest) := by
  have := numP_back (e := e) (least := least) (m := m) (r := Lib.itoa m ++ e :: rest) (k := (Lib.itoa m).length) he (by rw [List.getElem?_append_right (Nat.le_refl _)]; simp) hm hl (by rw [List.take_left'] <;> rfl)
  rw [this, List.drop_append, List.drop_eq_nil_of_le (by omega)]
  simp
theorem num_cons {e : UInt8} {least m : Int} {rest : Bs} {b : Bool} (he : 57 < e.toNat) (hm : inI m) (hl : least ≤ m) : numV e least (Lib.itoa m ++ e :: rest, b) = m ∧ numR e least (Lib.itoa m ++ e :: rest, b) = (rest, b) := num_some (numP_cons he hm hl)
theorem txt_cons {s rest : Bs} (hs : s.length ≤ 1000000) : txtV (encT s ++ rest, false) = s ∧ txtR (encT s ++ rest, false) = (rest, false) := by
  have e : encT s ++ rest = Lib.itoa (s.length : Int) ++ 58 :: (s ++ 44 :: rest) := by simp [encT]
  have hn := num_cons (e := 58) (least := 0) (m := (s.length : Int)) (rest := s ++ 44 :: rest) (b := false) (by decide) (by unfold inI; omega) (by omega)
  unfold txtV txtR
  rw [e, hn.1, hn.2]
  have h1 : ¬ (((s ++ 44 :: rest, false) : Bs × Bool).1.length : Int) < (s.length : Int) := by simp; omega
  rw [if_neg h1, if_neg h1]
  simp [cutV]
theorem get_enc {p : PipeD} (hd : p.d.length ≤ 64) (hr : 0 ≤ p.r ∧ p.r ≤ 9223372036854775807) (hw : 0 ≤ p.w ∧ p.w ≤ 9223372036854775807) : getP (encP p) = some p := by
  have e : encP p = encT p.d ++ (Lib.itoa p.r ++ 59 :: (Lib.itoa p.w ++ 59 :: [])) := by simp [encP]
  have h1 := txt_cons (s := p.d) (rest := Lib.itoa p.r ++ 59 :: (Lib.itoa p.w ++ 59 :: [])) (by omega)
  have h2 := num_cons (e := 59) (least := imin) (m := p.r) (rest := Lib.itoa p.w ++ 59 :: []) (b := false) (by decide) (by unfold inI; omega) (by unfold imin; omega)
  have h3 := num_cons (e := 59) (least := imin) (m := p.w) (rest := []) (b := false) (by decide) (by unfold inI; omega) (by unfold imin; omega)
  unfold getP
  rw [e]
  simp only [h1.1, h1.2, h2.1, h2.2, h3.1, h3.2]
  rw [if_pos ⟨trivial, trivial, hd, hr.1, hw.1⟩]
/-- a cell that is right is the encoding of what it says -/
theorem cut_some {e : UInt8} {s r : Bs × Bool} (h : cutV e s = r) (hr : r.2 = false) : s = (e :: r.1, false) := by
  obtain ⟨l, b⟩ := s
  cases l with
  | nil => simp only [cutV] at h; subst h; cases hr
  | cons c l =>
    simp only [cutV] at h
    split at h
    · rename_i hc; subst hc; subst h; simp at hr; subst hr; rfl
    · subst h; cases hr
theorem num_ok {e : UInt8} {least : Int} {s : Bs × Bool} (h : (numR e least s).2 = false) : s = (Lib.itoa (numV e least s) ++ e :: (numR e least s).1, false) ∧ inI (numV e least s) ∧ least ≤ numV e least s := by
  obtain ⟨l, b⟩ := s
  cases hp : numP e least l with
  | none => rw [(num_none (s := (l, b)) hp).2] at h; cases h
  | some x =>
    obtain ⟨m, r⟩ := x
    obtain ⟨h1, h2, h3⟩ := numP_some hp
    have := num_some (s := (l, b)) hp
    rw [this.1, this.2]
    rw [this.2] at h
    simp at h
    subst h
    exact ⟨by rw [h1], h2, h3⟩
end Go.Proofs.YtcbdclhoekokpaaGreatDoor
