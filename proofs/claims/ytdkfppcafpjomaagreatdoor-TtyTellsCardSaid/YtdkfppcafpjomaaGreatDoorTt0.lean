/- tty, in plain data -/
import Derived.Test.YtdkfppcafpjomaaGreatDoorPw
namespace Go.Proofs.YtdkfppcafpjomaaGreatDoor
open Go.RowKit M
set_option linter.unusedVariables false
structure ItemD where
  a : Int
  k : Int
  t : Bs
instance : DecidableEq ItemD := fun x y => by
  cases x; cases y
  rw [ItemD.mk.injEq]; infer_instance
instance : Inhabited ItemD := ⟨⟨0, 0, []⟩⟩
def itV (x : ItemD) : List Value := [intV x.a, intV x.k, strV x.t]
def itC : RowC ItemD := ⟨itV, 3, by decide, fun _ => rfl, fun _ => rfl⟩
/-- is an item right, behind one at the time last -/
def rightI (last : Int) (x : ItemD) : Bool := decide (last ≤ x.a) && decide (x.a ≤ 1099511627776) && decide (0 ≤ x.k) && decide (x.k < 4) && (decide (x.k = 0) || decide (x.t = [])) && decide (x.t.length ≤ 200) && decide ((10 : UInt8) ∉ x.t)
def rightF : Int → List ItemD → Bool
  | _, [] => true
  | last, x :: l => rightI last x && rightF x.a l
def rightB (l : List ItemD) : Bool := rightF 0 l && decide (l.length ≤ 100)
def encN (n : Int) : Bs := Lib.itoa n ++ [59]
def encX (x : ItemD) : Bs := encN x.a ++ encN x.k ++ encT x.t
def encL (l : List ItemD) : Bs := encN (l.length : Int) ++ l.flatMap encX
/-- what the reader makes of one item, and where it stands then -/
def itmR (s : Bs × Bool) : ItemD := ⟨numV 59 imin s, numV 59 imin (numR 59 imin s), txtV (numR 59 imin (numR 59 imin s))⟩
def stpR (s : Bs × Bool) : Bs × Bool := txtR (numR 59 imin (numR 59 imin s))
def stR : Nat → Bs × Bool → Bs × Bool
  | 0, s => s
  | n + 1, s => stpR (stR n s)
def rdL (n : Nat) (s : Bs × Bool) : List ItemD := (List.range n).map fun j => itmR (stR j s)
theorem rdL_len (n : Nat) (s : Bs × Bool) : (rdL n s).length = n := by simp [rdL]
theorem rdL_succ (n : Nat) (s : Bs × Bool) : rdL (n + 1) s = rdL n s ++ [itmR (stR n s)] := by simp [rdL, List.range_succ]
theorem stR_front : ∀ (n : Nat) (s : Bs × Bool), stR (n + 1) s = stR n (stpR s)
  | 0, _ => rfl
  | n + 1, s => by show stpR (stR (n + 1) s) = stpR (stR n (stpR s)); rw [stR_front n s]
theorem rdL_front (n : Nat) (s : Bs × Bool) : rdL (n + 1) s = itmR s :: rdL n (stpR s) := by
  unfold rdL
  rw [List.range_succ_eq_map, List.map_cons, List.map_map]
  congr 1
  refine List.map_congr_left fun j _ => ?_
  show itmR (stR (j + 1) s) = itmR (stR j (stpR s))
  rw [stR_front]
def itemsC (c : Bs) : List ItemD := if c = [] then [] else if encL (rdL (min (numV 59 0 (c, false)) 101).toNat (numR 59 0 (c, false))) = c ∧ rightB (rdL (min (numV 59 0 (c, false)) 101).toNat (numR 59 0 (c, false))) = true then rdL (min (numV 59 0 (c, false)) 101).toNat (numR 59 0 (c, false)) else []
theorem rightI_iff {last : Int} {x : ItemD} : rightI last x = true ↔ last ≤ x.a ∧ x.a ≤ 1099511627776 ∧ 0 ≤ x.k ∧ x.k < 4 ∧ (x.k = 0 ∨ x.t = []) ∧ x.t.length ≤ 200 ∧ (10 : UInt8) ∉ x.t := by
  unfold rightI
  simp only [Bool.and_eq_true, Bool.or_eq_true, decide_eq_true_eq]
  constructor
  · rintro ⟨⟨⟨⟨⟨⟨a, b⟩, c⟩, d⟩, e⟩, f⟩, g⟩; exact ⟨a, b, c, d, e, f, g⟩
  · rintro ⟨a, b, c, d, e, f, g⟩; exact ⟨⟨⟨⟨⟨⟨a, b⟩, c⟩, d⟩, e⟩, f⟩, g⟩
theorem rightF_mem : ∀ {l : List ItemD} {last : Int}, rightF last l = true → ∀ x ∈ l, last ≤ x.a ∧ x.a ≤ 1099511627776 ∧ 0 ≤ x.k ∧ x.k < 4 ∧ (x.k = 0 ∨ x.t = []) ∧ x.t.length ≤ 200 ∧ (10 : UInt8) ∉ x.t
  | [], _, _ => fun x hx => by cases hx
  | y :: l, last, h => fun x hx => by
    simp only [rightF, Bool.and_eq_true] at h
    have hy := rightI_iff.1 h.1
    rcases List.mem_cons.1 hx with rfl | hx
    · exact hy
    · have := rightF_mem h.2 x hx
      exact ⟨by omega, this.2⟩
theorem num_enc {m : Int} {rest : Bs} {least : Int} (hm : inI m) (hl : least ≤ m) : numV 59 least (encN m ++ rest, false) = m ∧ numR 59 least (encN m ++ rest, false) = (rest, false) := by
  have e : encN m ++ rest = Lib.itoa m ++ 59 :: rest := by simp [encN]
  rw [e]; exact num_cons (by decide) hm hl
theorem rd_enc : ∀ {l : List ItemD} {last : Int}, 0 ≤ last → rightF last l = true → ∀ rest : Bs, rdL l.length (l.flatMap encX ++ rest, false) = l
  | [], _, _, _, _ => rfl
  | x :: l, last, h0, h, rest => by
    have hx := rightF_mem h x List.mem_cons_self
    simp only [rightF, Bool.and_eq_true] at h
    have e : (x :: l).flatMap encX ++ rest = encN x.a ++ (encN x.k ++ (encT x.t ++ (l.flatMap encX ++ rest))) := by simp [encX]
    have h1 := num_enc (m := x.a) (least := imin) (rest := encN x.k ++ (encT x.t ++ (l.flatMap encX ++ rest))) (by unfold inI; omega) (by unfold imin; omega)
    have h2 := num_enc (m := x.k) (least := imin) (rest := encT x.t ++ (l.flatMap encX ++ rest)) (by unfold inI; omega) (by unfold imin; omega)
    have h3 := txt_cons (s := x.t) (rest := l.flatMap encX ++ rest) (by omega)
    have hi : itmR ((x :: l).flatMap encX ++ rest, false) = x := by
      unfold itmR; rw [e, h1.1, h1.2, h2.1, h2.2, h3.1]
    have hs : stpR ((x :: l).flatMap encX ++ rest, false) = (l.flatMap encX ++ rest, false) := by
      unfold stpR; rw [e, h1.2, h2.2, h3.2]
    rw [List.length_cons, rdL_front, hi, hs, rd_enc (by omega) h.2]
theorem items_enc {l : List ItemD} (h : rightB l = true) (hn : l ≠ []) : itemsC (encL l) = l := by
  simp only [rightB, Bool.and_eq_true, decide_eq_true_eq] at h
  have hl : 0 < l.length := List.length_pos_iff.2 hn
  have h1 := num_enc (m := (l.length : Int)) (least := 0) (rest := l.flatMap encX) (by unfold inI; omega) (by omega)
  have h2 := rd_enc (by omega) h.1 []
  rw [List.append_nil] at h2
  have e : rdL (min (numV 59 0 (encL l, false)) 101).toNat (numR 59 0 (encL l, false)) = l := by
    unfold encL
    rw [h1.1, h1.2, show (min (l.length : Int) 101).toNat = l.length by omega, h2]
  unfold itemsC
  rw [e, if_neg (by unfold encL encN; simp), if_pos ⟨rfl, by simp [rightB, h.1, h.2]⟩]
theorem items_right (c : Bs) : rightB (itemsC c) = true := by
  unfold itemsC
  split
  · rfl
  · split
    · rename_i h; exact h.2
    · rfl
theorem right_len {l : List ItemD} (h : rightB l = true) : l.length ≤ 100 := by
  simp only [rightB, Bool.and_eq_true, decide_eq_true_eq] at h; exact h.2
theorem right_mem {l : List ItemD} (h : rightB l = true) : ∀ x ∈ l, 0 ≤ x.a ∧ x.a ≤ 1099511627776 ∧ 0 ≤ x.k ∧ x.k < 4 ∧ (x.k = 0 ∨ x.t = []) ∧ x.t.length ≤ 200 ∧ (10 : UInt8) ∉ x.t := by
  simp only [rightB, Bool.and_eq_true, decide_eq_true_eq] at h; exact rightF_mem h.1
/-- what Fill writes -/
def fillC (l : List ItemD) : Bs := if l = [] then [] else encL l
theorem items_fill {l : List ItemD} (h : rightB l = true) : itemsC (fillC l) = l := by
  unfold fillC
  split
  · rename_i e; subst e; rfl
  · rename_i e; exact items_enc h e
/-- the number in a cell -/
def numC (c : Bs) : Int := if c = [] then 0 else if encN (numV 59 imin (c, false)) = c then numV 59 imin (c, false) else 0
theorem numC_enc {n : Int} (hn : inI n) : numC (encN n) = n := by
  have h1 := num_enc (m := n) (least := imin) (rest := []) hn (by unfold inI at hn; unfold imin; omega)
  rw [List.append_nil] at h1
  unfold numC
  rw [h1.1, if_neg (by unfold encN; simp), if_pos rfl]
theorem numC_nil : numC [] = 0 := rfl
theorem numC_in (c : Bs) : inI (numC c) := by
  unfold numC
  split
  · unfold inI; omega
  · split
    · exact numV_in _ _ _
    · unfold inI; omega
theorem numC_len {c : Bs} (h : numC c ≠ 0) : c.length ≤ 30 := by
  unfold numC at h
  split at h
  · exact absurd rfl h
  · split at h
    · rename_i h2
      have := (itoa_len (numV_in 59 imin (c, false))).1
      rw [← h2]; unfold encN; simp; omega
    · exact absurd rfl h
/-- is it a control -/
def ctlB (x : ItemD) : Bool := decide (x.k = 2) || decide (x.k = 3)
/-- the next item from a place on -/
def nextF (l : List ItemD) (i : Nat) (ctl : Bool) : Option Nat := (List.range l.length).find? fun j => decide (i ≤ j) && (match l[j]? with | some x => ctlB x == ctl | none => false)
theorem nextF_some {l : List ItemD} {i j : Nat} {ctl : Bool} : nextF l i ctl = some j ↔ (i ≤ j ∧ ∃ x, l[j]? = some x ∧ ctlB x = ctl) ∧ ∀ k x, i ≤ k → k < j → l[k]? = some x → ctlB x ≠ ctl := by
  unfold nextF
  rw [List.find?_range_eq_some]
  constructor
  · rintro ⟨h1, h2, h3⟩
    simp only [Bool.and_eq_true, decide_eq_true_eq] at h1
    refine ⟨⟨h1.1, ?_⟩, fun k x hk hkj hx hc => ?_⟩
    · have h12 := h1.2
      cases hx : l[j]? with
      | none => rw [hx] at h12; cases h12
      | some x => rw [hx] at h12; exact ⟨x, rfl, by simpa using h12⟩
    · have := h3 k hkj
      simp [hk, hx, hc] at this
  · rintro ⟨⟨h1, x, hx, hc⟩, h2⟩
    refine ⟨by simp [h1, hx, hc], by simp; exact (List.getElem?_eq_some_iff.1 hx).1, fun k hk => ?_⟩
    by_cases hik : i ≤ k
    · have hkl : k < l.length := by have := (List.getElem?_eq_some_iff.1 hx).1; omega
      have := h2 k l[k] hik hk (List.getElem?_eq_getElem hkl)
      simp [hik, List.getElem?_eq_getElem hkl, this]
    · simp [hik]
theorem nextF_none {l : List ItemD} {i : Nat} {ctl : Bool} : nextF l i ctl = none ↔ ∀ k x, i ≤ k → l[k]? = some x → ctlB x ≠ ctl := by
  unfold nextF
  rw [List.find?_range_eq_none]
  constructor
  · intro h k x hk hx hc
    have := h k (List.getElem?_eq_some_iff.1 hx).1
    simp [hk, hx, hc] at this
  · intro h k hk
    have hkl : k < l.length := by simpa using hk
    by_cases hik : i ≤ k
    · have := h k l[k] hik (List.getElem?_eq_getElem hkl)
      simp [hik, List.getElem?_eq_getElem hkl, this]
    · simp [hik]
theorem nextF_lt {l : List ItemD} {i j : Nat} {ctl : Bool} (h : nextF l i ctl = some j) : j < l.length := by
  obtain ⟨⟨_, x, hx, _⟩, _⟩ := nextF_some.1 h
  exact (List.getElem?_eq_some_iff.1 hx).1
end Go.Proofs.YtdkfppcafpjomaaGreatDoor
