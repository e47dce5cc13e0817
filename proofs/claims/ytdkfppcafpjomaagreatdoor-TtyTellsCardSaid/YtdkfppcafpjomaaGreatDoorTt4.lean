/- laws of tty, in plain data -/
import Derived.Test.YtdkfppcafpjomaaGreatDoorTc
namespace Go.Proofs.YtdkfppcafpjomaaGreatDoor
open Go.RowKit M
set_option linter.unusedVariables false
def inC : RowC Int := ⟨fun x => [intV x], 1, by decide, fun _ => rfl, fun _ => rfl⟩
structure OpT where
  k : Int
  now : Int
  n : Int
  s : Bs
  l : List ItemD
  lv : Value
def otV (o : OpT) : List Value := [intV o.k, intV o.now, intV o.n, strV o.s, o.lv]
abbrev OtRd (v : Value) (l : List OpT) (w : World) : Prop := RdX otV 5 (fun o w => RdL itC o.lv o.l w ∧ inI o.n) v l w
def okO (o : OpT) : Bool := decide (o.s.length ≤ 300) && decide (o.l.length ≤ 120) && o.l.all fun x => decide (x.t.length ≤ 300)
def fewT (l : List OpT) : Bool := l.all okO && decide (l.length ≤ 60)
theorem okO_iff {o : OpT} : okO o = true ↔ o.s.length ≤ 300 ∧ o.l.length ≤ 120 ∧ ∀ x ∈ o.l, x.t.length ≤ 300 := by
  unfold okO
  simp only [Bool.and_eq_true, decide_eq_true_eq, List.all_eq_true, and_assoc]
theorem fewT_bad {l : List OpT} {i : Nat} {o : OpT} (ho : l[i]? = some o) (h : ¬ okO o = true) : fewT l = false := by
  unfold fewT
  rw [Bool.and_eq_false_iff]
  refine .inl ?_
  rw [Bool.eq_false_iff]
  intro q
  exact h (List.all_eq_true.1 q o (List.mem_of_getElem? ho))
theorem fewT_end {l : List OpT} {i : Nat} (h : ∀ j o, j < i → l[j]? = some o → okO o = true) (hi : l.length ≤ i) : decide ((l.length : Int) ≤ 60) = fewT l := by
  unfold fewT
  have : l.all okO = true := List.all_eq_true.2 fun o ho => by
    obtain ⟨j, hj⟩ := List.mem_iff_getElem?.1 ho
    exact h j o (by have := (List.getElem?_eq_some_iff.1 hj).1; omega) hj
  rw [this, Bool.true_and]
  exact decide_eq_decide.2 (by omega)
theorem fewT_get {l : List OpT} (h : fewT l = true) {i : Nat} {o : OpT} (ho : l[i]? = some o) : o.s.length ≤ 300 ∧ o.l.length ≤ 120 ∧ ∀ x ∈ o.l, x.t.length ≤ 300 := by
  simp only [fewT, Bool.and_eq_true] at h
  exact okO_iff.1 (List.all_eq_true.1 h.1 o (List.mem_of_getElem? ho))
theorem fewT_len {l : List OpT} (h : fewT l = true) : l.length ≤ 60 := by
  simp only [fewT, Bool.and_eq_true, decide_eq_true_eq] at h; exact h.2
def trN (b : Bool) : Int := if b = true then 1 else 0
def kOther : Bs := [111, 116, 104, 101, 114]
def cellK (n : Int) : Bs := if n % 8 = 0 then kIn else if n % 8 = 1 then kPos else if n % 8 = 2 then kCtl else if n % 8 = 3 then kPart else if n % 8 = 4 then kFg else kOther
theorem cellK_len (n : Int) : (cellK n).length ≤ 100 := by
  unfold cellK
  split
  · decide
  split
  · decide
  split
  · decide
  split
  · decide
  split
  · decide
  · decide
def doW (W : WS) (o : OpT) : WS := if o.k % 16 = 5 ∨ o.k % 16 = 6 then dueW W o.now else if o.k % 16 = 7 then W else if o.k % 16 = 8 then W else if o.k % 16 = 9 then fillW W o.l else if o.k % 16 = 10 then setFgW W o.n else if o.k % 16 = 11 then logS W kOut o.s else if o.k % 16 = 12 then putS W (cellK o.n) o.s else readTW W o.now o.n
def doV (W : WS) (o : OpT) : Bs × Int × Int := if o.k % 16 = 5 ∨ o.k % 16 = 6 then ((dueD W o.now).t, (dueD W o.now).a * 10 + (dueD W o.now).k, trN (dueI W o.now).isSome) else if o.k % 16 = 7 then ([], (nextAtF (itemsW W) o.now).getD 0, trN (nextAtF (itemsW W) o.now).isSome) else if o.k % 16 = 8 then ([], trN (readyW W o.now), trN (ctlW W o.now)) else if o.k % 16 = 9 then ([], fillE o.l, 0) else if o.k % 16 = 10 then ([], 0, 0) else if o.k % 16 = 11 then ([], 0, 0) else if o.k % 16 = 12 then ([], 0, 0) else ((readTV W o.now o.n).1, (readTV W o.now o.n).2, 0)
/-- is it a read -/
def isRd (o : OpT) : Prop := ¬ (5 ≤ o.k % 16 ∧ o.k % 16 ≤ 12)
theorem do_read {W : WS} {o : OpT} (h : isRd o) : doW W o = readTW W o.now o.n ∧ doV W o = ((readTV W o.now o.n).1, (readTV W o.now o.n).2, 0) := by
  unfold isRd at h
  have e1 : ¬ (o.k % 16 = 5 ∨ o.k % 16 = 6) := by omega
  have e2 : ¬ o.k % 16 = 7 := by omega
  have e3 : ¬ o.k % 16 = 8 := by omega
  have e4 : ¬ o.k % 16 = 9 := by omega
  have e5 : ¬ o.k % 16 = 10 := by omega
  have e6 : ¬ o.k % 16 = 11 := by omega
  have e7 : ¬ o.k % 16 = 12 := by omega
  unfold doW doV
  exact ⟨by rw [if_neg e1, if_neg e2, if_neg e3, if_neg e4, if_neg e5, if_neg e6, if_neg e7], by rw [if_neg e1, if_neg e2, if_neg e3, if_neg e4, if_neg e5, if_neg e6, if_neg e7]⟩
theorem TB.doW {W : WS} (h : TB W) {o : OpT} (hs : o.s.length ≤ 300) (hn : inI o.n) : TB (Go.Proofs.YtdkfppcafpjomaaGreatDoor.doW W o) := by
  unfold Go.Proofs.YtdkfppcafpjomaaGreatDoor.doW
  split
  · exact h.due _
  split
  · exact h
  split
  · exact h
  split
  · exact h.fill _
  split
  · unfold setFgW
    refine h.put ?_
    split
    · simp
    · have := encN_len hn; omega
  split
  · intro k; have := h k; unfold logS; split <;> exact this
  split
  · exact h.put (by omega)
  · exact h.read _ _
theorem logs_do (W : WS) (o : OpT) : ((doW W o).logs kOut).length ≤ (W.logs kOut).length + o.s.length := by
  have hp : ∀ (V : WS) (k v : Bs), (putS V k v).logs = V.logs := fun _ _ _ => rfl
  unfold doW
  split
  · unfold dueW; split <;> simp [hp]
  split
  · omega
  split
  · omega
  split
  · unfold fillW; split <;> simp [hp]
  split
  · unfold setFgW; simp [hp]
  split
  · unfold logS; split <;> simp [updC]
  split
  · simp [hp]
  · unfold readTW
    split
    · omega
    split
    · simp [hp]
    split
    · omega
    · split
      · omega
      split <;> simp [hp]
/-- what a call that is no read, no Fill and no Put leaves of the terminal -/
theorem TI.quiet {W : WS} {l : List ItemD} {pos ctl : Nat} {part : Bs} (h : TI W l pos ctl part) {o : OpT} (hk : 5 ≤ o.k % 16 ∧ o.k % 16 ≤ 11) (h9 : o.k % 16 ≠ 9) : ∃ ctl', TI (doW W o) l pos ctl' part := by
  obtain ⟨n1, n2, n3, n4, n5, n6, n7, n8, n9, n10⟩ := keys_ne
  unfold doW
  split
  · exact ⟨_, h.due _⟩
  split
  · exact ⟨_, h⟩
  split
  · exact ⟨_, h⟩
  split
  · exact ⟨_, h.other (Ne.symm n7) (Ne.symm n8) (Ne.symm n9) (Ne.symm n10)⟩
  split
  · unfold logS
    split
    · exact ⟨ctl, h⟩
    · exact ⟨ctl, ⟨h.items, h.pos, h.ctl, h.part⟩⟩
  · exfalso; omega
theorem TI.rd {W : WS} {l : List ItemD} {pos ctl : Nat} {part : Bs} (h : TI W l pos ctl part) {o : OpT} (hk : isRd o) : TI (doW W o) l (readX l pos part o.now o.n).2.1 ctl (readX l pos part o.now o.n).2.2 ∧ doV W o = ((readX l pos part o.now o.n).1.1, (readX l pos part o.now o.n).1.2, 0) := by
  rw [(do_read hk).1, (do_read hk).2, h.readV]
  exact ⟨h.read _ _, rfl⟩
theorem right_kind {l : List ItemD} (h : rightB l = true) : ∀ x ∈ l, 0 ≤ x.k ∧ x.k < 4 := fun x hx => by
  have := right_mem h x hx; omega
/-- what a read of at least one byte gives -/
theorem read_step {l : List ItemD} (hr : rightB l = true) {pos : Nat} {part : Bs} {got over : Nat} (h : TR l pos part got over) {now n : Int} (hn : 1 ≤ n) :
    ((readX l pos part now n).1.2 = 1 ∧ (readX l pos part now n).1.1 = [] ∧ (typE 0 l)[over]? = some got ∧ TR l (readX l pos part now n).2.1 (readX l pos part now n).2.2 got (over + 1)) ∨
    ((readX l pos part now n).1.2 = 2 ∧ (readX l pos part now n).1.1 = [] ∧ TR l (readX l pos part now n).2.1 (readX l pos part now n).2.2 got over ∧ ((typE 0 l)[over]? = some got ∨ got = (typS l).length ∨ ∃ t, (typA l)[got]? = some t ∧ now < t)) ∨
    ((readX l pos part now n).1.2 = 0 ∧ (typE 0 l)[over]? ≠ some got ∧ 1 ≤ (readX l pos part now n).1.1.length ∧ ((readX l pos part now n).1.1.length : Int) ≤ n ∧ got + (readX l pos part now n).1.1.length ≤ (typS l).length ∧ ((typS l).take (got + (readX l pos part now n).1.1.length)).drop got = (readX l pos part now n).1.1 ∧ TR l (readX l pos part now n).2.1 (readX l pos part now n).2.2 (got + (readX l pos part now n).1.1.length) over) := by
  unfold readX
  rw [if_neg (by omega)]
  by_cases hp : part ≠ []
  · rw [if_pos hp]
    have hpl := List.length_pos_iff.2 hp
    obtain ⟨h1, h2⟩ := h.part_read (m := (min n part.length).toNat) (by omega)
    have hl : (part.take (min n part.length).toNat).length = (min n part.length).toNat := by rw [List.length_take]; omega
    have hg := h.got_le
    refine .inr (.inr ⟨rfl, h.part_no hp, ?_, ?_, ?_, h2, h1⟩) <;> (show _; dsimp only; rw [hl]; omega)
  · rw [if_neg hp]
    have hp : part = [] := Decidable.not_not.1 hp
    cases hq : nextF l pos false with
    | none =>
      obtain ⟨h1, h2⟩ := h.none_all hp hq
      exact .inr (.inl ⟨rfl, rfl, h, .inr (.inl h2)⟩)
    | some i =>
      obtain ⟨h1, ⟨x, hx, hk⟩, h3⟩ := h.next (right_kind hr) hp hq
      have hix := ix_of hx
      dsimp only
      rw [hix]
      by_cases c1 : now < x.a
      · rw [if_pos c1]
        refine .inr (.inl ⟨rfl, rfl, h, ?_⟩)
        rcases hk with hk | hk
        · exact .inr (.inr ⟨x.a, (h3.line hx hk).2.2, c1⟩)
        · exact .inl (h3.eof hx hk).1
      · rw [if_neg c1]
        by_cases c2 : x.k = 1
        · rw [if_pos c2, hp]
          exact .inl ⟨rfl, rfl, (h3.eof hx c2).1, (h3.eof hx c2).2⟩
        · rw [if_neg c2]
          have hk0 : x.k = 0 := by omega
          obtain ⟨h4, h5, h6⟩ := h3.line hx hk0
          have hxl : (x.t ++ [10]).length = x.t.length + 1 := by simp
          obtain ⟨h7, h8⟩ := h5.part_read (m := (min n (x.t.length + 1)).toNat) (by omega)
          have hl : ((x.t ++ [10]).take (min n (x.t.length + 1)).toNat).length = (min n (x.t.length + 1)).toNat := by rw [List.length_take]; omega
          have hg := h5.got_le
          refine .inr (.inr ⟨rfl, h4, ?_, ?_, ?_, h8, h7⟩) <;> (show _; dsimp only; rw [hl]; omega)
theorem read_none {l : List ItemD} {pos : Nat} {part : Bs} {now n : Int} (hn : n < 1) : readX l pos part now n = (([], 0), pos, part) := by
  unfold readX; rw [if_pos hn]
theorem ready_read {l : List ItemD} {pos : Nat} {part : Bs} {now n : Int} (hn : 1 ≤ n) : readyX l pos part now = decide ((readX l pos part now n).1.2 ≠ 2) := by
  unfold readyX readX
  rw [if_neg (show ¬ n < 1 by omega)]
  by_cases hp : part ≠ []
  · rw [if_pos hp, if_pos hp]; rfl
  · rw [if_neg hp, if_neg hp]
    cases hq : nextF l pos false with
    | none => rfl
    | some i =>
      dsimp only
      have e : ∀ q : ((Bs × Int) × Nat × Bs), decide (q.1.2 ≠ 2) = !(decide (q.1.2 = 2)) := fun q => by simp
      rw [e]
      by_cases c1 : now < (ix l i).a
      · simp [c1]
      · by_cases c2 : (ix l i).k = 1
        · simp [c1, c2]; omega
        · simp [c1, c2]; omega
/-- the bytes of the part were there in time -/
def PT (l : List ItemD) (part : Bs) (got : Nat) (now : Int) : Prop := ∀ m, got ≤ m → m < got + part.length → ∃ t, (typA l)[m]? = some t ∧ t ≤ now
theorem PT.mono {l : List ItemD} {part : Bs} {got : Nat} {a b : Int} (h : PT l part got a) (hab : a ≤ b) : PT l part got b := fun m h1 h2 => by
  obtain ⟨t, h3, h4⟩ := h m h1 h2
  exact ⟨t, h3, by omega⟩
/-- nothing is read before its time -/
theorem read_times {l : List ItemD} (hr : rightB l = true) {pos : Nat} {part : Bs} {got over : Nat} (h : TR l pos part got over) {now n : Int} (hn : 1 ≤ n) (ht : PT l part got now) :
    (∀ m, got ≤ m → m < got + (readX l pos part now n).1.1.length → ∃ t, (typA l)[m]? = some t ∧ t ≤ now) ∧ PT l (readX l pos part now n).2.2 (got + (readX l pos part now n).1.1.length) now := by
  unfold readX
  rw [if_neg (show ¬ n < 1 by omega)]
  by_cases hp : part ≠ []
  · rw [if_pos hp]
    have hl : (part.take (min n part.length).toNat).length = (min n part.length).toNat := by rw [List.length_take]; omega
    refine ⟨fun m h1 h2 => ht m h1 (by dsimp only at h2; rw [hl] at h2; omega), fun m h1 h2 => ht m (by dsimp only at h1; omega) ?_⟩
    dsimp only at h2
    rw [hl, List.length_drop] at h2; omega
  · rw [if_neg hp]
    have hp : part = [] := Decidable.not_not.1 hp
    cases hq : nextF l pos false with
    | none => exact ⟨fun m h1 h2 => absurd h2 (by simp; omega), ht⟩
    | some i =>
      obtain ⟨h1, ⟨x, hx, hk⟩, h3⟩ := h.next (right_kind hr) hp hq
      have hix := ix_of hx
      dsimp only
      rw [hix]
      by_cases c1 : now < x.a
      · rw [if_pos c1]; exact ⟨fun m h1 h2 => absurd h2 (by simp; omega), ht⟩
      · rw [if_neg c1]
        by_cases c2 : x.k = 1
        · rw [if_pos c2]; exact ⟨fun m h1 h2 => absurd h2 (by simp; omega), ht⟩
        · rw [if_neg c2]
          have hk0 : x.k = 0 := by omega
          have hpt := part_times h3 hx hk0
          have hxl : (x.t ++ [10]).length = x.t.length + 1 := by simp
          have hl : ((x.t ++ [10]).take (min n (x.t.length + 1)).toNat).length = (min n (x.t.length + 1)).toNat := by rw [List.length_take]; omega
          refine ⟨fun m h1 h2 => ⟨x.a, hpt m h1 (by dsimp only at h2; rw [hl] at h2; omega), by omega⟩, fun m h1 h2 => ⟨x.a, hpt m (by dsimp only at h1; omega) ?_, by omega⟩⟩
          dsimp only at h2
          rw [hl, List.length_drop] at h2; omega
/-- what Due takes -/
theorem due_step {l : List ItemD} {ctl : Nat} {now : Int} : (∀ i, dueX l ctl now = some i → (l.filter ctlB)[cntC l ctl]? = some (ix l i) ∧ (ix l i).a ≤ now ∧ cntC l (i + 1) = cntC l ctl + 1) ∧ (dueX l ctl now = none → ∀ x, (l.filter ctlB)[cntC l ctl]? = some x → now < x.a) := by
  unfold dueX
  cases hq : nextF l ctl true with
  | none =>
    refine ⟨fun i h => (by cases h), fun _ x hx => ?_⟩
    have := ctl_none hq
    rw [List.getElem?_eq_none (by omega)] at hx; cases hx
  | some j =>
    obtain ⟨h1, h2⟩ := ctl_next hq
    dsimp only
    by_cases c : now < (ix l j).a
    · rw [if_pos c]
      refine ⟨fun i h => by (cases h), fun _ x hx => ?_⟩
      rw [h1] at hx; cases hx; exact c
    · rw [if_neg c]
      refine ⟨fun i h => ?_, fun h => (by cases h)⟩
      cases h
      exact ⟨h1, by omega, h2⟩
/-- right, as the law tells it -/
def rightP (l : List ItemD) (i : Nat) : Bool := (List.range i).all fun j => rightI (lastI l j 0) (ix l j)
theorem rightP_succ (l : List ItemD) (i : Nat) : rightP l (i + 1) = (rightP l i && rightI (lastI l i 0) (ix l i)) := by
  unfold rightP
  rw [List.range_succ, List.all_append]
  simp
theorem rightP_end (l : List ItemD) : (decide ((l.length : Int) ≤ 100) && rightP l l.length) = rightB l := by
  unfold rightB
  rw [Bool.and_comm]
  congr 1
  · rw [Bool.eq_iff_iff, rightF_iff]
    unfold rightP
    rw [List.all_eq_true]
    constructor
    · intro h i x hx
      have := h i (List.mem_range.2 (List.getElem?_eq_some_iff.1 hx).1)
      rw [ix_of hx] at this; exact this
    · intro h j hj
      have hj := List.mem_range.1 hj
      have := h j l[j] (List.getElem?_eq_getElem hj)
      rw [ix_of (List.getElem?_eq_getElem hj)]; exact this
  · exact decide_eq_decide.2 (by omega)
theorem nextAt_nil (now : Int) : nextAtF [] now = none := rfl
end Go.Proofs.YtdkfppcafpjomaaGreatDoor
