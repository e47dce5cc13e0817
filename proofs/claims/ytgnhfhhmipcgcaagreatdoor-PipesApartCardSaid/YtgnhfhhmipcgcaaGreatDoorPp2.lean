/- pipes, in plain data: ends, apart -/
import Derived.Test.YtgnhfhhmipcgcaaGreatDoorPp1
namespace Go.Proofs.YtgnhfhhmipcgcaaGreatDoor
open Go.RowKit M
set_option linter.unusedVariables false
/-- PipesEnds: the pipe x, its ends, and whether it is there -/
structure EndsI (W : WS) (x : Bs) (there : Bool) (rd wr : Int) (i : Nat) : Prop where
  yes : there = true → ∃ p, gP W x = some p ∧ p.r = rd ∧ p.w = wr
  no : there = false → gP W x = none ∧ rd = 0 ∧ wr = 0
  r : 0 ≤ rd ∧ rd ≤ i
  w : 0 ≤ wr ∧ wr ≤ i
theorem EndsI.up {W : WS} {x : Bs} {there : Bool} {rd wr : Int} {i : Nat} (h : EndsI W x there rd wr i) : EndsI W x there rd wr (i + 1) := ⟨h.yes, h.no, by have := h.r; omega, by have := h.w; omega⟩
theorem EndsI.make {W : WS} {x : Bs} {there : Bool} {rd wr : Int} {i : Nat} (h : EndsI W x there rd wr i) (hx : x ≠ []) (k : Nat) : EndsI (mkP W x k) x (there || decide (mkE W x k = 0)) rd wr (i + 1) := by
  have hr := h.r
  have hw := h.w
  cases ht : there with
  | true =>
    obtain ⟨p, hp, h1, h2⟩ := h.yes ht
    have he : mkE W x k = 5 := by unfold mkE; rw [if_neg hx, hp]
    unfold mkP
    rw [he, if_neg (by decide)]
    exact ⟨fun _ => ⟨p, hp, h1, h2⟩, fun q => by simp at q, by omega, by omega⟩
  | false =>
    obtain ⟨hp, rfl, rfl⟩ := h.no ht
    unfold mkP
    by_cases he : mkE W x k = 0
    · rw [if_pos he, decide_eq_true he]
      exact ⟨fun _ => ⟨_, gP_set hx ⟨by simp, by simp, by simp⟩, rfl, rfl⟩, fun q => by simp at q, by omega, by omega⟩
    · rw [if_neg he, decide_eq_false he]
      exact ⟨fun q => by simp at q, fun _ => ⟨hp, rfl, rfl⟩, by omega, by omega⟩
theorem addE_val {p : PipeD} {wr : Bool} {n : Int} (hr : -9223372036854775808 ≤ p.r + n ∧ p.r + n ≤ 9223372036854775807) (hw : -9223372036854775808 ≤ p.w + n ∧ p.w + n ≤ 9223372036854775807) : addE p wr n = if wr = true then { p with w := p.w + n } else { p with r := p.r + n } := by
  unfold addE
  rw [wrap64 hr.1 (by omega), wrap64 hw.1 (by omega)]
theorem EndsI.opn {W : WS} {x : Bs} {there : Bool} {rd wr : Int} {i : Nat} (h : EndsI W x there rd wr i) (hi : i ≤ 1000) (b : Bool) : EndsI (openP W x b) x there (if b = false ∧ openE W x = 0 then rd + 1 else rd) (if b = true ∧ openE W x = 0 then wr + 1 else wr) (i + 1) := by
  have hr := h.r
  have hw := h.w
  cases ht : there with
  | true =>
    obtain ⟨p, hp, h1, h2⟩ := h.yes ht
    have ho := gP_ok hp
    have he : openE W x = 0 := by unfold openE; rw [hp]
    have hv := addE_val (p := p) (wr := b) (n := 1) (by omega) (by omega)
    unfold openP
    rw [hp, he]
    dsimp only
    rw [hv]
    cases b
    · simp only [Bool.false_eq_true, if_false, false_and, true_and, if_true]
      exact ⟨fun _ => ⟨_, gP_set (gP_id hp) ⟨ho.d, by dsimp only; omega, ho.w⟩, by dsimp only; omega, h2⟩, fun q => by simp at q, by omega, by omega⟩
    · simp only [if_true, true_and, Bool.true_eq_false, false_and, if_false]
      exact ⟨fun _ => ⟨_, gP_set (gP_id hp) ⟨ho.d, ho.r, by dsimp only; omega⟩, h1, by dsimp only; omega⟩, fun q => by simp at q, by omega, by omega⟩
  | false =>
    obtain ⟨hp, rfl, rfl⟩ := h.no ht
    have he : openE W x = 4 := by unfold openE; rw [hp]
    unfold openP
    rw [hp, he]
    dsimp only
    rw [if_neg (by rintro ⟨_, q⟩; cases q), if_neg (by rintro ⟨_, q⟩; cases q)]
    exact ⟨fun q => by simp at q, fun _ => ⟨hp, rfl, rfl⟩, by omega, by omega⟩
theorem EndsI.cls {W : WS} {x : Bs} {there : Bool} {rd wr : Int} {i : Nat} (h : EndsI W x there rd wr i) (hi : i ≤ 1000) (b : Bool) (rd' wr' : Int) (hrd : rd' = if b = false ∧ closeE W x b = 0 then rd - 1 else rd) (hwr : wr' = if b = true ∧ closeE W x b = 0 then wr - 1 else wr) : EndsI (closeP W x b) x (there && !decide (closeE W x b = 0 ∧ rd' = 0 ∧ wr' = 0)) rd' wr' (i + 1) := by
  have hr := h.r
  have hw := h.w
  cases ht : there with
  | true =>
    obtain ⟨p, hp, h1, h2⟩ := h.yes ht
    have ho := gP_ok hp
    have hv := addE_val (p := p) (wr := b) (n := -1) (by omega) (by omega)
    unfold closeE at hrd hwr ⊢
    unfold closeP
    rw [hp] at hrd hwr ⊢
    dsimp only at hrd hwr ⊢
    by_cases h0 : endE p b = 0
    · simp only [h0, if_true] at hrd hwr ⊢
      have e1 : rd' = rd := by rw [hrd, if_neg (by rintro ⟨_, q⟩; cases q)]
      have e2 : wr' = wr := by rw [hwr, if_neg (by rintro ⟨_, q⟩; cases q)]
      rw [decide_eq_false (by rintro ⟨q, _⟩; cases q)]
      subst e1; subst e2
      exact ⟨fun _ => ⟨p, hp, h1, h2⟩, fun q => by simp at q, by omega, by omega⟩
    · simp only [h0, if_false] at hrd hwr ⊢
      rw [hv]
      cases b
      · have e1 : rd' = rd - 1 := by simpa using hrd
        have e2 : wr' = wr := by simpa using hwr
        have h3 : p.r ≠ 0 := by simpa [endE] using h0
        simp only [Bool.false_eq_true, if_false, true_and]
        by_cases hz : p.r + -1 = 0 ∧ p.w = 0
        · rw [if_pos hz, decide_eq_true (by omega)]
          exact ⟨fun q => by simp at q, fun _ => ⟨gP_del, by omega, by omega⟩, by omega, by omega⟩
        · rw [if_neg hz, decide_eq_false (by omega)]
          exact ⟨fun _ => ⟨_, gP_set (gP_id hp) ⟨ho.d, by dsimp only; omega, ho.w⟩, by dsimp only; omega, by dsimp only; omega⟩, fun q => by simp at q, by omega, by omega⟩
      · have e1 : rd' = rd := by simpa using hrd
        have e2 : wr' = wr - 1 := by simpa using hwr
        have h3 : p.w ≠ 0 := by simpa [endE] using h0
        simp only [if_true, true_and]
        by_cases hz : p.r = 0 ∧ p.w + -1 = 0
        · rw [if_pos hz, decide_eq_true (by omega)]
          exact ⟨fun q => by simp at q, fun _ => ⟨gP_del, by omega, by omega⟩, by omega, by omega⟩
        · rw [if_neg hz, decide_eq_false (by omega)]
          exact ⟨fun _ => ⟨_, gP_set (gP_id hp) ⟨ho.d, ho.r, by dsimp only; omega⟩, by dsimp only; omega, by dsimp only; omega⟩, fun q => by simp at q, by omega, by omega⟩
  | false =>
    obtain ⟨hp, rfl, rfl⟩ := h.no ht
    have he : closeE W x b = 4 := by unfold closeE; rw [hp]
    rw [he] at hrd hwr
    have e1 : rd' = 0 := by rw [hrd, if_neg (by rintro ⟨_, q⟩; cases q)]
    have e2 : wr' = 0 := by rw [hwr, if_neg (by rintro ⟨_, q⟩; cases q)]
    subst e1; subst e2
    unfold closeP
    rw [hp]
    dsimp only
    exact ⟨fun q => by simp at q, fun _ => ⟨hp, rfl, rfl⟩, by omega, by omega⟩
/-- PipesApart: another pipe's cell stands as it was -/
theorem gP_other {W : WS} {id o : Bs} (h : o ≠ id) (wr : Bool) (n : Int) (s : Bs) (k : Nat) : gP (openP W id wr) o = gP W o ∧ gP (closeP W id wr) o = gP W o ∧ gP (readP W id n) o = gP W o ∧ gP (writeP W id s) o = gP W o ∧ gP (mkP W id k) o = gP W o := by
  refine ⟨?_, ?_, ?_, ?_, ?_⟩
  · unfold openP; split
    · rfl
    · exact gP_ne h
  · unfold closeP; split
    · rfl
    · split
      · rfl
      · split <;> exact gP_ne h
  · unfold readP; split
    · rfl
    · split
      · rfl
      · exact gP_ne h
  · unfold writeP; split
    · rfl
    · split
      · rfl
      · exact gP_ne h
  · unfold mkP; split
    · exact gP_ne h
    · rfl
theorem cell_other {W : WS} {id k : Bs} (h : ∀ t, k ≠ kP t) (wr : Bool) (n : Int) (s : Bs) (c : Nat) : (openP W id wr).cells k = W.cells k ∧ (closeP W id wr).cells k = W.cells k ∧ (readP W id n).cells k = W.cells k ∧ (writeP W id s).cells k = W.cells k ∧ (mkP W id c).cells k = W.cells k := by
  have key : ∀ v, (putS W (kP id) v).cells k = W.cells k := fun v => by
    unfold putS updC; dsimp only; rw [if_neg (h id)]
  refine ⟨?_, ?_, ?_, ?_, ?_⟩
  · unfold openP; split
    · rfl
    · exact key _
  · unfold closeP; split
    · rfl
    · split
      · rfl
      · split <;> exact key _
  · unfold readP; split
    · rfl
    · split
      · rfl
      · exact key _
  · unfold writeP; split
    · rfl
    · split
      · rfl
      · exact key _
  · unfold mkP; split
    · exact key _
    · rfl
end Go.Proofs.YtgnhfhhmipcgcaaGreatDoor
