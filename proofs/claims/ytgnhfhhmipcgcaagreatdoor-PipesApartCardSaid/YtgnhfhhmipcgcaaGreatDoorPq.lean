/- pipes, in plain data: what the laws need -/
import Derived.Test.YtgnhfhhmipcgcaaGreatDoorPy
namespace Go.Proofs.YtgnhfhhmipcgcaaGreatDoor
open Go.RowKit M
set_option linter.unusedVariables false
theorem keyN_empty : keyN emptyW = 0 := keyN_eq ⟨[], rfl, List.nodup_nil, fun k => ⟨fun h => by simp at h, fun h => absurd rfl h.1⟩⟩
theorem gP_empty (id : Bs) : gP emptyW id = none := by
  unfold gP; split
  · rfl
  · exact getP_nil
theorem gD_of {W : WS} {id : Bs} {y : PipeD} (h : gP W id = some y) : gD W id = y := by unfold gD; rw [h]; rfl
theorem gB_of {W : WS} {id : Bs} {y : PipeD} (h : gP W id = some y) : gB W id = true := by unfold gB; rw [h]; rfl
theorem gB_no {W : WS} {id : Bs} (h : gP W id = none) : gB W id = false := by unfold gB; rw [h]; rfl
theorem gD_no {W : WS} {id : Bs} (h : gP W id = none) : gD W id = zeroP := by unfold gD; rw [h]; rfl
def decE (p : PipeD) (wr : Bool) : PipeD := if wr = true then { p with w := p.w - 1 } else { p with r := p.r - 1 }
section
variable {W : WS} {id : Bs}
theorem mkG (hi : id ≠ []) (h : gP W id = none) (hk : keyN W < 64) : mkE W id (keyN W) = 0 ∧ gP (mkP W id (keyN W)) id = some ⟨[], 0, 0⟩ := by
  have e : mkE W id (keyN W) = 0 := by unfold mkE; rw [if_neg hi, h]; dsimp only; rw [if_neg (by omega)]
  refine ⟨e, ?_⟩
  unfold mkP; rw [e, if_pos rfl]
  exact gP_set hi ⟨by simp, by simp, by simp⟩
variable {p : PipeD} (h : gP W id = some p)
include h
theorem opnG (hr : p.r < 1000) (hw : p.w < 1000) (wr : Bool) : openE W id = 0 ∧ gP (openP W id wr) id = some (if wr = true then { p with w := p.w + 1 } else { p with r := p.r + 1 }) := by
  have ho := gP_ok h
  have h1 := ho.r
  have h2 := ho.w
  unfold openE openP
  rw [h]
  refine ⟨rfl, ?_⟩
  dsimp only
  rw [addE_val (by omega) (by omega)]
  refine gP_set (gP_id h) ?_
  cases wr
  · exact ⟨ho.d, by simp only [Bool.false_eq_true, if_false]; omega, ho.w⟩
  · exact ⟨ho.d, ho.r, by simp only [if_true]; omega⟩
theorem clsG (wr : Bool) (he : endE p wr ≠ 0) : closeE W id wr = 0 ∧ gP (closeP W id wr) id = (if (decE p wr).r = 0 ∧ (decE p wr).w = 0 then none else some (decE p wr)) := by
  have ho := gP_ok h
  have h1 := ho.r
  have h2 := ho.w
  unfold closeE closeP
  rw [h]
  dsimp only
  rw [if_neg he, if_neg he]
  refine ⟨rfl, ?_⟩
  rw [addE_val (by omega) (by omega)]
  have e : (if wr = true then { p with w := p.w + -1 } else { p with r := p.r + -1 } : PipeD) = decE p wr := by unfold decE; cases wr <;> rfl
  rw [e]
  by_cases hz : (decE p wr).r = 0 ∧ (decE p wr).w = 0
  · rw [if_pos hz, if_pos hz]; exact gP_del
  · rw [if_neg hz, if_neg hz]
    refine gP_set (gP_id h) ?_
    unfold endE at he
    unfold decE
    cases wr
    · simp only [Bool.false_eq_true, if_false] at he ⊢
      exact ⟨ho.d, by dsimp only; omega, ho.w⟩
    · simp only [if_true] at he ⊢
      exact ⟨ho.d, ho.r, by dsimp only; omega⟩
theorem readG (n : Int) : gP (readP W id n) id = some { p with d := if n < 1 ∨ p.d = [] then p.d else p.d.drop (min n p.d.length).toNat } := by
  have ho := gP_ok h
  unfold readP
  rw [h]
  dsimp only
  split
  · exact h
  · refine gP_set (gP_id h) ⟨?_, ho.r, ho.w⟩
    have := ho.d
    simp only [List.length_drop]; omega
theorem writeG (s : Bs) : gP (writeP W id s) id = some { p with d := if p.r = 0 ∨ s = [] ∨ (64 - (p.d.length : Int) = 0 ∨ (64 - (p.d.length : Int) < s.length ∧ s.length ≤ 64)) then p.d else p.d ++ s.take (min (s.length : Int) (64 - p.d.length)).toNat } := by
  have ho := gP_ok h
  have hd := ho.d
  unfold writeP
  rw [h]
  dsimp only
  split
  · exact h
  · rename_i hc
    refine gP_set (gP_id h) ⟨?_, ho.r, ho.w⟩
    simp only [List.length_append, List.length_take]; omega
/-- what a read says -/
theorem read_flow (hw : p.w ≠ 0) (n : Int) : ((readV W id n).1.length : Int) ≤ max n 0 ∧ canB W id false n = decide (¬ (readV W id n).2 = 2) ∧ (readV W id n).2 ≠ 1 := by
  by_cases h1 : n < 1
  · have e1 : readV W id n = ([], 0) := by unfold readV; rw [h]; dsimp only; rw [if_pos h1]
    have e2 : canB W id false n = true := by unfold canB; rw [h]; dsimp only; rw [if_pos h1]
    rw [e1, e2]; exact ⟨by simp; omega, rfl, by simp⟩
  · by_cases h2 : p.d = []
    · have e1 : readV W id n = ([], 2) := by unfold readV; rw [h]; dsimp only; rw [if_neg h1, if_neg (fun q => hw q.2), if_pos h2]
      have e2 : canB W id false n = false := by unfold canB; rw [h]; dsimp only; rw [if_neg h1, if_neg (by decide)]; exact decide_eq_false (fun q => q.elim (fun r => r h2) hw)
      rw [e1, e2]; exact ⟨by simp; omega, rfl, by simp⟩
    · have e1 : readV W id n = (p.d.take (min n p.d.length).toNat, 0) := by unfold readV; rw [h]; dsimp only; rw [if_neg h1, if_neg (fun q => h2 q.1), if_neg h2]
      have e2 : canB W id false n = true := by unfold canB; rw [h]; dsimp only; rw [if_neg h1, if_neg (by decide)]; exact decide_eq_true (.inl h2)
      rw [e1, e2]; exact ⟨by simp only [List.length_take]; omega, rfl, by simp⟩
theorem write_flow (hr : p.r ≠ 0) (s : Bs) : ((s.length : Int) ≤ 64 → (writeV W id s).1 = 0 ∨ (writeV W id s).1 = s.length) ∧ canB W id true s.length = decide (¬ (writeV W id s).2 = 3) ∧ (writeV W id s).2 ≠ 4 := by
  have hd := (gP_ok h).d
  by_cases h1 : s = []
  · subst h1
    have e1 : writeV W id [] = (0, 0) := by unfold writeV; rw [h]; dsimp only; rw [if_neg hr, if_pos rfl]
    have e2 : canB W id true (([] : Bs).length : Int) = true := by unfold canB; rw [h]; dsimp only; rw [if_pos (by simp)]
    rw [e1, e2]; exact ⟨fun _ => .inl rfl, rfl, by simp⟩
  · have hl : 0 < s.length := List.length_pos_iff.2 h1
    have e2 : canB W id true (s.length : Int) = decide (p.r = 0 ∨ (s.length : Int) ≤ 64 - (p.d.length : Int) ∨ (64 < (s.length : Int) ∧ 0 < 64 - (p.d.length : Int))) := by unfold canB; rw [h]; dsimp only; rw [if_neg (by omega), if_pos rfl]
    by_cases h2 : 64 - (p.d.length : Int) = 0 ∨ (64 - (p.d.length : Int) < s.length ∧ s.length ≤ 64)
    · have e1 : writeV W id s = (0, 3) := by unfold writeV; rw [h]; dsimp only; rw [if_neg hr, if_neg h1, if_pos h2]
      rw [e1, e2]
      exact ⟨fun _ => .inl rfl, decide_eq_decide.2 (by dsimp only; omega), by simp⟩
    · have e1 : writeV W id s = (min (s.length : Int) (64 - p.d.length), 0) := by unfold writeV; rw [h]; dsimp only; rw [if_neg hr, if_neg h1, if_neg h2]
      rw [e1, e2]
      exact ⟨fun hs => .inr (by dsimp only; omega), decide_eq_decide.2 (by dsimp only; omega), by simp⟩
end
/-- PipesEnds: how many ends there are after an operation -/
noncomputable def dN (W : WS) (o : OpP) : Int := if (doV W o).2.2 = 0 ∧ o.k % 6 = 2 then -1 else if (doV W o).2.2 = 0 ∧ o.k % 6 = 1 then 1 else 0
noncomputable def rdN (W : WS) (o : OpP) (rd : Int) : Int := if o.wr = true then rd else rd + dN W o
noncomputable def wrN (W : WS) (o : OpP) (wr : Int) : Int := if o.wr = true then wr + dN W o else wr
noncomputable def thN (W : WS) (o : OpP) (th : Bool) (rd wr : Int) : Bool := (th || decide (o.k % 6 = 0 ∧ (doV W o).2.2 = 0)) && !decide (o.k % 6 = 2 ∧ (doV W o).2.2 = 0 ∧ rdN W o rd = 0 ∧ wrN W o wr = 0)
theorem EndsI.same {W W' : WS} {x : Bs} {th : Bool} {rd wr : Int} {i : Nat} (h : EndsI W x th rd wr i) (hs : ∀ p, gP W x = some p → ∃ q, gP W' x = some q ∧ q.r = p.r ∧ q.w = p.w) (hn : gP W x = none → gP W' x = none) : EndsI W' x th rd wr (i + 1) := by
  have h1 := h.r
  have h2 := h.w
  refine ⟨fun ht => ?_, fun ht => ?_, by omega, by omega⟩
  · obtain ⟨p, hp, a, b⟩ := h.yes ht
    obtain ⟨q, hq, c, d⟩ := hs p hp
    exact ⟨q, hq, by omega, by omega⟩
  · obtain ⟨hp, a, b⟩ := h.no ht
    exact ⟨hn hp, a, b⟩
theorem dv0 {W : WS} {o : OpP} (h : o.k % 6 = 0) : doV W o = ([], 0, mkE W o.id (keyN W)) ∧ doP W o = mkP W o.id (keyN W) := by
  unfold doV doP; rw [if_pos h, if_pos h]; exact ⟨rfl, rfl⟩
theorem dv1 {W : WS} {o : OpP} (h : o.k % 6 = 1) : doV W o = ([], 0, openE W o.id) ∧ doP W o = openP W o.id o.wr := by
  unfold doV doP; rw [if_neg (by omega), if_pos h, if_neg (by omega), if_pos h]; exact ⟨rfl, rfl⟩
theorem dv2 {W : WS} {o : OpP} (h : o.k % 6 = 2) : doV W o = ([], 0, closeE W o.id o.wr) ∧ doP W o = closeP W o.id o.wr := by
  unfold doV doP; rw [if_neg (by omega), if_neg (by omega), if_pos h, if_neg (by omega), if_neg (by omega), if_pos h]; exact ⟨rfl, rfl⟩
theorem dv3 {W : WS} {o : OpP} (h : o.k % 6 = 3) : doV W o = ((readV W o.id o.n).1, 0, (readV W o.id o.n).2) ∧ doP W o = readP W o.id o.n := by
  unfold doV doP; rw [if_neg (by omega), if_neg (by omega), if_neg (by omega), if_pos h, if_neg (by omega), if_neg (by omega), if_neg (by omega), if_pos h]; exact ⟨rfl, rfl⟩
theorem dv4 {W : WS} {o : OpP} (h : o.k % 6 = 4) : doV W o = ([], (writeV W o.id o.s).1, (writeV W o.id o.s).2) ∧ doP W o = writeP W o.id o.s := by
  unfold doV doP; rw [if_neg (by omega), if_neg (by omega), if_neg (by omega), if_neg (by omega), if_pos h, if_neg (by omega), if_neg (by omega), if_neg (by omega), if_neg (by omega), if_pos h]; exact ⟨rfl, rfl⟩
theorem dv5 {W : WS} {o : OpP} (h : o.k % 6 = 5) : doP W o = W := by
  unfold doP; rw [if_neg (by omega), if_neg (by omega), if_neg (by omega), if_neg (by omega), if_neg (by omega)]
theorem readP_none {W : WS} {id : Bs} {n : Int} (h : gP W id = none) : readP W id n = W := by unfold readP; rw [h]
theorem writeP_none {W : WS} {id s : Bs} (h : gP W id = none) : writeP W id s = W := by unfold writeP; rw [h]
theorem ends_step {W : WS} {o : OpP} {th : Bool} {rd wr : Int} {i : Nat} (h : EndsI W o.id th rd wr i) (hx : o.id ≠ []) (hi : i ≤ 1000) : EndsI (doP W o) o.id (thN W o th rd wr) (rdN W o rd) (wrN W o wr) (i + 1) := by
  have hk : o.k % 6 = 0 ∨ o.k % 6 = 1 ∨ o.k % 6 = 2 ∨ o.k % 6 = 3 ∨ o.k % 6 = 4 ∨ o.k % 6 = 5 := by omega
  have keep : (o.k % 6 ≠ 1 ∧ o.k % 6 ≠ 2) → rdN W o rd = rd ∧ wrN W o wr = wr := fun q => by
    have : dN W o = 0 := by unfold dN; rw [if_neg (fun r => q.2 r.2), if_neg (fun r => q.1 r.2)]
    unfold rdN wrN; rw [this]; split <;> simp
  have quiet : (o.k % 6 ≠ 0 ∧ o.k % 6 ≠ 2) → thN W o th rd wr = th := fun q => by
    unfold thN; rw [decide_eq_false (fun r => q.1 r.1), decide_eq_false (fun r => q.2 r.1)]; simp
  rcases hk with hk | hk | hk | hk | hk | hk
  · obtain ⟨hv, hp⟩ := dv0 (W := W) hk
    obtain ⟨k1, k2⟩ := keep ⟨by omega, by omega⟩
    rw [k1, k2, hp]
    have ht : thN W o th rd wr = (th || decide (mkE W o.id (keyN W) = 0)) := by
      unfold thN; rw [hv, decide_eq_false (p := o.k % 6 = 2 ∧ _) (fun r => by omega)]
      simp [hk]
    rw [ht]
    exact h.make hx _
  · obtain ⟨hv, hp⟩ := dv1 (W := W) hk
    rw [quiet ⟨by omega, by omega⟩, hp]
    have := h.opn hi o.wr
    have e1 : rdN W o rd = (if o.wr = false ∧ openE W o.id = 0 then rd + 1 else rd) := by
      unfold rdN dN; rw [hv]; dsimp only
      cases o.wr <;> simp [hk]
      split <;> omega
    have e2 : wrN W o wr = (if o.wr = true ∧ openE W o.id = 0 then wr + 1 else wr) := by
      unfold wrN dN; rw [hv]; dsimp only
      cases o.wr <;> simp [hk]
      split <;> omega
    rw [e1, e2]; exact this
  · obtain ⟨hv, hp⟩ := dv2 (W := W) hk
    rw [hp]
    have e1 : rdN W o rd = (if o.wr = false ∧ closeE W o.id o.wr = 0 then rd - 1 else rd) := by
      unfold rdN dN; rw [hv]; dsimp only
      cases o.wr <;> simp [hk]
      split <;> omega
    have e2 : wrN W o wr = (if o.wr = true ∧ closeE W o.id o.wr = 0 then wr - 1 else wr) := by
      unfold wrN dN; rw [hv]; dsimp only
      cases o.wr <;> simp [hk]
      split <;> omega
    have ht : thN W o th rd wr = (th && !decide (closeE W o.id o.wr = 0 ∧ rdN W o rd = 0 ∧ wrN W o wr = 0)) := by
      unfold thN; rw [hv, decide_eq_false (p := o.k % 6 = 0 ∧ _) (fun r => by omega)]
      simp [hk]
    rw [ht]
    exact h.cls hi o.wr _ _ e1 e2
  · obtain ⟨hv, hp⟩ := dv3 (W := W) hk
    obtain ⟨k1, k2⟩ := keep ⟨by omega, by omega⟩
    rw [quiet ⟨by omega, by omega⟩, hp, k1, k2]
    exact h.same (fun p hp => let ⟨q, a, b, c, d⟩ := readP_ok (n := o.n) hp; ⟨q, a, c, d⟩) (fun hn => by rw [readP_none hn]; exact hn)
  · obtain ⟨hv, hp⟩ := dv4 (W := W) hk
    obtain ⟨k1, k2⟩ := keep ⟨by omega, by omega⟩
    rw [quiet ⟨by omega, by omega⟩, hp, k1, k2]
    exact h.same (fun p hp => let ⟨q, a, b, c, d, _⟩ := writeP_ok (s := o.s) hp; ⟨q, a, c, d⟩) (fun hn => by rw [writeP_none hn]; exact hn)
  · obtain ⟨k1, k2⟩ := keep ⟨by omega, by omega⟩
    rw [quiet ⟨by omega, by omega⟩, dv5 (W := W) hk, k1, k2]
    exact h.up
theorem EndsI.get {W : WS} {x : Bs} {th : Bool} {rd wr : Int} {i : Nat} (h : EndsI W x th rd wr i) : gB W x = th ∧ (gD W x).r = rd ∧ (gD W x).w = wr := by
  cases ht : th with
  | true =>
    obtain ⟨p, hp, a, b⟩ := h.yes ht
    rw [gB_of hp, gD_of hp]; exact ⟨rfl, a, b⟩
  | false =>
    obtain ⟨hp, rfl, rfl⟩ := h.no ht
    rw [gB_no hp, gD_no hp]; exact ⟨rfl, rfl, rfl⟩
/-- a write without readers is broken -/
theorem ends_write {W : WS} {o : OpP} {th : Bool} {rd wr : Int} {i : Nat} (h : EndsI W o.id th rd wr i) (hk : o.k % 6 = 4) : ((doV W o).2.2 = 4 ↔ rdN W o rd = 0) ∧ (rdN W o rd = 0 → (doV W o).2.1 = 0) := by
  have e : rdN W o rd = rd := by
    have : dN W o = 0 := by unfold dN; rw [if_neg (fun r => by have := r.2; omega), if_neg (fun r => by have := r.2; omega)]
    unfold rdN; rw [this]; split <;> simp
  rw [e, (dv4 (W := W) hk).1]
  dsimp only
  cases ht : th with
  | true =>
    obtain ⟨p, hp, a, b⟩ := h.yes ht
    unfold writeV; rw [hp]; dsimp only
    subst a
    by_cases h0 : p.r = 0
    · rw [if_pos h0]; simp [h0]
    · rw [if_neg h0]
      have : (if o.s = [] then ((0 : Int), (0 : Int)) else if 64 - (p.d.length : Int) = 0 ∨ (64 - (p.d.length : Int) < o.s.length ∧ o.s.length ≤ 64) then (0, 3) else (min (o.s.length : Int) (64 - p.d.length), 0)).2 ≠ 4 := by
        split
        · simp
        · split <;> simp
      exact ⟨⟨fun q => absurd q this, fun q => absurd q h0⟩, fun q => absurd q h0⟩
  | false =>
    obtain ⟨hp, rfl, rfl⟩ := h.no ht
    unfold writeV; rw [hp]; simp
/-- a read without writers ends when the data is used up -/
theorem ends_read {W : WS} {o : OpP} {th : Bool} {rd wr : Int} {i : Nat} (h : EndsI W o.id th rd wr i) (hk : o.k % 6 = 3) (h0 : wrN W o wr = 0) : (doV W o).2.2 = 0 ∨ (doV W o).2.2 = 1 := by
  have e : wrN W o wr = wr := by
    have : dN W o = 0 := by unfold dN; rw [if_neg (fun r => by have := r.2; omega), if_neg (fun r => by have := r.2; omega)]
    unfold wrN; rw [this]; split <;> simp
  rw [e] at h0
  rw [(dv3 (W := W) hk).1]
  dsimp only
  unfold readV
  cases ht : th with
  | true =>
    obtain ⟨p, hp, a, b⟩ := h.yes ht
    rw [hp]; dsimp only
    by_cases h1 : o.n < 1
    · rw [if_pos h1]; exact .inl rfl
    · rw [if_neg h1]
      by_cases h2 : p.d = []
      · rw [if_pos ⟨h2, by omega⟩]; exact .inr rfl
      · rw [if_neg (fun q => h2 q.1), if_neg h2]; exact .inl rfl
  | false =>
    obtain ⟨hp, rfl, rfl⟩ := h.no ht
    rw [hp]; exact .inr rfl
end Go.Proofs.YtgnhfhhmipcgcaaGreatDoor
