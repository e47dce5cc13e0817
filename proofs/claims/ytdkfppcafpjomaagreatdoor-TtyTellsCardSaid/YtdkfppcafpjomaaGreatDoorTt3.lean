/- tty, in plain data: controls, times -/
import Derived.Test.YtdkfppcafpjomaaGreatDoorTt2
namespace Go.Proofs.YtdkfppcafpjomaaGreatDoor
open Go.RowKit M
set_option linter.unusedVariables false
theorem quiet_ctl {l : List ItemD} {i j : Nat} (hn : ∀ k x, i ≤ k → k < j → l[k]? = some x → ctlB x ≠ true) : ((l.drop i).take (j - i)).filter ctlB = [] := by
  rw [List.filter_eq_nil_iff]
  intro x hx
  obtain ⟨m, hm⟩ := List.mem_iff_getElem?.1 hx
  rw [List.getElem?_take] at hm
  split at hm
  · rw [List.getElem?_drop] at hm
    exact hn (i + m) x (by omega) (by omega) hm
  · cases hm
def cntC (l : List ItemD) (i : Nat) : Nat := ((l.take i).filter ctlB).length
theorem ctl_next {l : List ItemD} {i j : Nat} (h : nextF l i true = some j) : (l.filter ctlB)[cntC l i]? = some (ix l j) ∧ cntC l (j + 1) = cntC l i + 1 := by
  obtain ⟨⟨h1, x, hx, hc⟩, h2⟩ := nextF_some.1 h
  have e : (l.take j).filter ctlB = (l.take i).filter ctlB := by rw [take_cut h1, List.filter_append, quiet_ctl h2, List.append_nil]
  constructor
  · have e3 : l.filter ctlB = (l.take i).filter ctlB ++ (l.drop j).filter ctlB := by rw [← e, ← List.filter_append, List.take_append_drop]
    unfold cntC
    rw [e3, List.getElem?_append_right (Nat.le_refl _), Nat.sub_self, drop_cons hx, List.filter_cons, if_pos hc, ix_of hx]; rfl
  · unfold cntC
    rw [take_snoc hx, List.filter_append, e, List.length_append]
    simp [List.filter_cons, hc]
theorem ctl_none {l : List ItemD} {i : Nat} (h : nextF l i true = none) : (l.filter ctlB).length = cntC l i := by
  have h2 := nextF_none.1 h
  unfold cntC
  have : (l.drop i).filter ctlB = [] := by
    rw [List.filter_eq_nil_iff]
    intro x hx
    obtain ⟨m, hm⟩ := List.mem_iff_getElem?.1 hx
    rw [List.getElem?_drop] at hm
    exact h2 (i + m) x (by omega) hm
  have e3 : l.filter ctlB = (l.take i).filter ctlB := by
    conv => lhs; rw [← List.take_append_drop i l]
    rw [List.filter_append, this, List.append_nil]
  rw [e3]
def lastI (l : List ItemD) (i : Nat) (last : Int) : Int := if i = 0 then last else (ix l (i - 1)).a
theorem rightF_iff : ∀ (l : List ItemD) (last : Int), rightF last l = true ↔ ∀ i x, l[i]? = some x → rightI (lastI l i last) x = true
  | [], last => by simp [rightF]
  | y :: l, last => by
    simp only [rightF, Bool.and_eq_true, rightF_iff l y.a]
    constructor
    · rintro ⟨h1, h2⟩ i x hx
      cases i with
      | zero => simp at hx; subst hx; exact h1
      | succ i =>
        have := h2 i x (by simpa using hx)
        have e : lastI (y :: l) (i + 1) last = lastI l i y.a := by
          unfold lastI
          rw [if_neg (by omega)]
          cases i with
          | zero => rfl
          | succ i => rw [if_neg (by omega)]; unfold ix; simp
        rw [e]; exact this
    · intro h
      refine ⟨h 0 y rfl, fun i x hx => ?_⟩
      have := h (i + 1) x (by simpa using hx)
      have e : lastI (y :: l) (i + 1) last = lastI l i y.a := by
        unfold lastI
        rw [if_neg (by omega)]
        cases i with
        | zero => rfl
        | succ i => rw [if_neg (by omega)]; unfold ix; simp
      rw [e] at this; exact this
theorem sorted_le {l : List ItemD} {last : Int} (h : rightF last l = true) : ∀ (i j : Nat) (x y : ItemD), i ≤ j → l[i]? = some x → l[j]? = some y → x.a ≤ y.a := by
  intro i j x y hij hx hy
  induction j generalizing y with
  | zero => have : i = 0 := by omega
            subst this; rw [hx] at hy; cases hy; omega
  | succ j ih =>
    by_cases e : i = j + 1
    · subst e; rw [hx] at hy; cases hy; omega
    · obtain ⟨z, hz⟩ : ∃ z, l[j]? = some z := ⟨_, List.getElem?_eq_getElem (by have := (List.getElem?_eq_some_iff.1 hy).1; omega)⟩
      have h1 := ih z (by omega) hz
      have h2 := rightI_iff.1 ((rightF_iff l last).1 h (j + 1) y hy)
      have e2 : lastI l (j + 1) last = z.a := by unfold lastI; rw [if_neg (by omega), Nat.add_sub_cancel, ix_of hz]
      rw [e2] at h2; omega
/-- the first item after a time is the least one -/
theorem nextAt_least {l : List ItemD} (h : rightB l = true) (now : Int) : (∀ n, nextAtF l now = some n → (∃ x ∈ l, x.a = n) ∧ now < n ∧ ∀ x ∈ l, now < x.a → n ≤ x.a) ∧ (nextAtF l now = none → ∀ x ∈ l, ¬ now < x.a) := by
  simp only [rightB, Bool.and_eq_true] at h
  unfold nextAtF
  constructor
  · intro n hn
    obtain ⟨x, hx, rfl⟩ := Option.map_eq_some_iff.1 hn
    obtain ⟨h1, l1, l2, rfl, h2⟩ := List.find?_eq_some_iff_append.1 hx
    refine ⟨⟨x, by simp, rfl⟩, by simpa using h1, fun y hy hlt => ?_⟩
    rcases List.mem_append.1 hy with hy | hy
    · have := h2 y hy; simp at this; omega
    · obtain ⟨m, hm⟩ := List.mem_iff_getElem?.1 hy
      exact sorted_le h.1 l1.length (l1.length + m) x y (by omega) (by simp) (by rw [List.getElem?_append_right (by omega), show l1.length + m - l1.length = m by omega]; exact hm)
  · intro hn x hx
    have := List.find?_eq_none.1 (Option.map_eq_none_iff.1 hn) x hx
    simpa using this
theorem nextAtF_step {l : List ItemD} {now : Int} {i : Nat} (h : ∀ j x, j < i → l[j]? = some x → ¬ now < x.a) : (∀ x, l[i]? = some x → now < x.a → nextAtF l now = some x.a) ∧ (l.length ≤ i → nextAtF l now = none) := by
  unfold nextAtF
  constructor
  · intro x hx hlt
    have e : l = l.take i ++ x :: l.drop (i + 1) := by
      rw [← drop_cons hx, List.take_append_drop]
    have hf : l.find? (fun x => decide (now < x.a)) = some x := by
      rw [e, List.find?_append]
      have : (l.take i).find? (fun x => decide (now < x.a)) = none := by
        rw [List.find?_eq_none]
        intro y hy
        obtain ⟨m, hm⟩ := List.mem_iff_getElem?.1 hy
        rw [List.getElem?_take] at hm
        split at hm
        · rename_i hmi; have := h m y hmi hm; simpa using this
        · cases hm
      rw [this]
      simp [List.find?_cons, hlt]
    rw [hf]; rfl
  · intro hl
    have : l.find? (fun x => decide (now < x.a)) = none := by
      rw [List.find?_eq_none]
      intro y hy
      obtain ⟨m, hm⟩ := List.mem_iff_getElem?.1 hy
      have := h m y (by have := (List.getElem?_eq_some_iff.1 hm).1; omega) hm; simpa using this
    rw [this]; rfl
end Go.Proofs.YtdkfppcafpjomaaGreatDoor
