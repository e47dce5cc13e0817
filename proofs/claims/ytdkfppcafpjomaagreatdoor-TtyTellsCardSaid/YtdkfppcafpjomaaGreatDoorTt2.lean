/- tty, in plain data: what was typed -/
import Derived.Test.YtdkfppcafpjomaaGreatDoorTt1
namespace Go.Proofs.YtdkfppcafpjomaaGreatDoor
open Go.RowKit M
set_option linter.unusedVariables false
def linS (x : ItemD) : Bs := if x.k = 0 then x.t ++ [10] else []
def typS (l : List ItemD) : Bs := l.flatMap linS
def typE : Nat → List ItemD → List Nat
  | _, [] => []
  | o, x :: l => (if x.k = 1 then [o] else []) ++ typE (o + (linS x).length) l
def typA (l : List ItemD) : List Int := l.flatMap fun x => List.replicate (linS x).length x.a
theorem typS_app (a b : List ItemD) : typS (a ++ b) = typS a ++ typS b := by simp [typS]
theorem typA_app (a b : List ItemD) : typA (a ++ b) = typA a ++ typA b := by simp [typA]
theorem typA_len (l : List ItemD) : (typA l).length = (typS l).length := by
  induction l with
  | nil => rfl
  | cons x l ih => simp only [typA, typS, List.flatMap_cons, List.length_append, List.length_replicate] at ih ⊢; omega
theorem typE_app : ∀ (a b : List ItemD) (o : Nat), typE o (a ++ b) = typE o a ++ typE (o + (typS a).length) b
  | [], b, o => by simp [typE, typS]
  | x :: a, b, o => by
    simp only [List.cons_append, typE, typE_app a b, List.append_assoc]
    congr 3
    simp only [typS, List.flatMap_cons, List.length_append]; omega
theorem typE_ge : ∀ (l : List ItemD) (o : Nat), ∀ e ∈ typE o l, o ≤ e
  | [], o, e, h => by cases h
  | x :: l, o, e, h => by
    simp only [typE, List.mem_append] at h
    rcases h with h | h
    · split at h
      · rcases List.mem_cons.1 h with rfl | h
        · exact Nat.le_refl _
        · cases h
      · cases h
    · have := typE_ge l _ e h; omega
/-- items that are controls: nothing typed -/
def Quiet (l : List ItemD) : Prop := ∀ x ∈ l, x.k ≠ 0 ∧ x.k ≠ 1
theorem Quiet.nil {l : List ItemD} (h : Quiet l) : typS l = [] ∧ (∀ o, typE o l = []) ∧ typA l = [] := by
  induction l with
  | nil => exact ⟨rfl, fun _ => rfl, rfl⟩
  | cons x l ih =>
    have hx := h x List.mem_cons_self
    have := ih fun y hy => h y (List.mem_cons_of_mem _ hy)
    have hl : linS x = [] := by unfold linS; rw [if_neg hx.1]
    refine ⟨by simp only [typS, List.flatMap_cons, hl, List.nil_append]; exact this.1, fun o => ?_, by simp only [typA, List.flatMap_cons, hl, List.length_nil, List.replicate_zero, List.nil_append]; exact this.2.2⟩
    simp only [typE, hl, if_neg hx.2, List.nil_append]; exact this.2.1 _
theorem take_cut {l : List ItemD} {i j : Nat} (h : i ≤ j) : l.take j = l.take i ++ (l.drop i).take (j - i) := by
  rw [← List.take_add]; congr 1; omega
/-- between a place and the next item that is no control there are controls -/
theorem gap_quiet {l : List ItemD} {i j : Nat} (hr : ∀ x ∈ l, 0 ≤ x.k ∧ x.k < 4) (hn : ∀ k x, i ≤ k → k < j → l[k]? = some x → ctlB x ≠ false) : Quiet ((l.drop i).take (j - i)) := by
  intro x hx
  obtain ⟨m, hm⟩ := List.mem_iff_getElem?.1 hx
  rw [List.getElem?_take] at hm
  split at hm
  · rename_i hlt
    rw [List.getElem?_drop] at hm
    have h1 := hn (i + m) x (by omega) (by omega) hm
    unfold ctlB at h1
    constructor
    · intro q; apply h1; simp [q]
    · intro q; apply h1; simp [q]
  · cases hm
theorem rest_quiet {l : List ItemD} {i : Nat} (hn : ∀ k x, i ≤ k → l[k]? = some x → ctlB x ≠ false) : Quiet (l.drop i) := by
  intro x hx
  obtain ⟨m, hm⟩ := List.mem_iff_getElem?.1 hx
  rw [List.getElem?_drop] at hm
  have h1 := hn (i + m) x (by omega) hm
  unfold ctlB at h1
  constructor
  · intro q; apply h1; simp [q]
  · intro q; apply h1; simp [q]
/-- where a reader stands: got bytes have been read, over ends of the input -/
structure TR (l : List ItemD) (pos : Nat) (part : Bs) (got over : Nat) : Prop where
  posl : pos ≤ l.length
  str : ∃ pre : Bs, typS (l.take pos) = pre ++ part ∧ pre.length = got
  over : over = (typE 0 (l.take pos)).length
theorem TR.start (l : List ItemD) : TR l 0 [] 0 0 := ⟨by omega, ⟨[], by simp [typS], rfl⟩, by simp [typE]⟩
section
variable {l : List ItemD} {pos : Nat} {part : Bs} {got over : Nat} (h : TR l pos part got over) (hr : ∀ x ∈ l, 0 ≤ x.k ∧ x.k < 4)
include h
theorem TR.whole : ∃ pre post : Bs, typS l = pre ++ part ++ post ∧ pre.length = got ∧ post = typS (l.drop pos) := by
  obtain ⟨pre, h1, h2⟩ := h.str
  refine ⟨pre, typS (l.drop pos), ?_, h2, rfl⟩
  rw [← h1, ← typS_app, List.take_append_drop]
theorem TR.ends : typE 0 l = typE 0 (l.take pos) ++ typE (got + part.length) (l.drop pos) := by
  obtain ⟨pre, h1, h2⟩ := h.str
  have e : (typS (l.take pos)).length = got + part.length := by rw [h1, List.length_append, h2]
  conv => lhs; rw [← List.take_append_drop pos l]
  rw [typE_app, e, Nat.zero_add]
/-- the end that is told next stands here exactly if .. -/
theorem TR.end_at (e : Nat) : ((typE 0 l)[over]? = some e) ↔ (typE (got + part.length) (l.drop pos))[0]? = some e := by
  rw [h.ends, h.over, List.getElem?_append_right (Nat.le_refl _), Nat.sub_self]
theorem TR.got_le : got + part.length ≤ (typS l).length := by
  obtain ⟨pre, post, h1, h2, _⟩ := h.whole
  rw [h1]; simp only [List.length_append]; omega
/-- a part is there: no end stands here -/
theorem TR.part_no (hp : part ≠ []) : (typE 0 l)[over]? ≠ some got := by
  intro q
  rw [h.end_at] at q
  have := typE_ge _ _ _ (List.mem_of_getElem? q)
  have := List.length_pos_iff.2 hp
  omega
theorem TR.part_read {m : Nat} (hm : m ≤ part.length) : TR l pos (part.drop m) (got + (part.take m).length) over ∧ ((typS l).take (got + (part.take m).length)).drop got = part.take m := by
  obtain ⟨pre, h1, h2⟩ := h.str
  obtain ⟨pre', post, h3, h4, _⟩ := h.whole
  have hl : (part.take m).length = m := by rw [List.length_take]; omega
  refine ⟨⟨h.posl, ⟨pre ++ part.take m, by rw [h1, List.append_assoc, List.take_append_drop], by rw [List.length_append, h2]⟩, h.over⟩, ?_⟩
  rw [h3, hl, List.append_assoc, ← h4, List.take_append, List.take_of_length_le (by omega), List.drop_append, List.drop_eq_nil_of_le (by omega), Nat.sub_self, List.nil_append, List.drop_zero, show pre'.length + m - pre'.length = m by omega, List.take_append_of_le_length hm]
theorem TR.none_all (hp : part = []) (hn : nextF l pos false = none) : (typE 0 l)[over]? = none ∧ got = (typS l).length := by
  have hq := rest_quiet (nextF_none.1 hn)
  obtain ⟨q1, q2, _⟩ := hq.nil
  obtain ⟨pre, post, h3, h4, h5⟩ := h.whole
  constructor
  · rw [h.ends, q2, List.append_nil, h.over]; exact List.getElem?_eq_none (Nat.le_refl _)
  · rw [h3, h5, q1, hp]; simp [h4]
include hr
/-- the next item: where it stands in what was typed -/
theorem TR.next {i : Nat} (hp : part = []) (hn : nextF l pos false = some i) : i < l.length ∧ (∃ x, l[i]? = some x ∧ (x.k = 0 ∨ x.k = 1)) ∧ TR l i [] got over := by
  obtain ⟨⟨h1, x, hx, hc⟩, h2⟩ := nextF_some.1 hn
  have hil := (List.getElem?_eq_some_iff.1 hx).1
  have hk := hr x (List.mem_of_getElem? hx)
  refine ⟨hil, ⟨x, hx, ?_⟩, ?_⟩
  · unfold ctlB at hc; simp at hc; omega
  · obtain ⟨pre, h3, h4⟩ := h.str
    have hq := gap_quiet hr h2
    obtain ⟨q1, q2, _⟩ := hq.nil
    refine ⟨by omega, ⟨pre, ?_, h4⟩, ?_⟩
    · rw [take_cut h1, typS_app, q1, h3, hp, List.append_nil]
    · rw [take_cut h1, typE_app, q2, List.append_nil]; exact h.over
end
theorem drop_cons {l : List ItemD} {i : Nat} {x : ItemD} (hx : l[i]? = some x) : l.drop i = x :: l.drop (i + 1) := by
  obtain ⟨hi, rfl⟩ := List.getElem?_eq_some_iff.1 hx
  exact List.drop_eq_getElem_cons hi
theorem take_snoc {l : List ItemD} {i : Nat} {x : ItemD} (hx : l[i]? = some x) : l.take (i + 1) = l.take i ++ [x] := by
  rw [List.take_add_one, hx]; rfl
section
variable {l : List ItemD} {i : Nat} {got over : Nat} {x : ItemD} (h : TR l i [] got over) (hx : l[i]? = some x)
include h hx
theorem TR.eof (hk : x.k = 1) : (typE 0 l)[over]? = some got ∧ TR l (i + 1) [] got (over + 1) := by
  have hl : linS x = [] := by unfold linS; rw [if_neg (by omega)]
  constructor
  · rw [h.end_at, drop_cons hx]; simp [typE, hk]
  · obtain ⟨pre, h1, h2⟩ := h.str
    have hi := (List.getElem?_eq_some_iff.1 hx).1
    refine ⟨by omega, ⟨pre, ?_, h2⟩, ?_⟩
    · rw [take_snoc hx, typS_app, h1]; simp [typS, hl]
    · rw [take_snoc hx, typE_app, h.over]; simp [typE, hk]
theorem TR.line (hk : x.k = 0) : (typE 0 l)[over]? ≠ some got ∧ TR l (i + 1) (x.t ++ [10]) got over ∧ (typA l)[got]? = some x.a := by
  have hl : linS x = x.t ++ [10] := by unfold linS; rw [if_pos hk]
  obtain ⟨pre, h1, h2⟩ := h.str
  have hi := (List.getElem?_eq_some_iff.1 hx).1
  have e2 : typS (l.take i) = pre := by simpa using h1
  refine ⟨fun q => ?_, ⟨by omega, ⟨pre, ?_, h2⟩, ?_⟩, ?_⟩
  · rw [h.end_at, drop_cons hx] at q
    simp only [typE, hk] at q
    have := typE_ge _ _ _ (List.mem_of_getElem? q)
    rw [hl] at this
    simp at this
    omega
  · rw [take_snoc hx, typS_app, e2]; simp [typS, hl]
  · rw [take_snoc hx, typE_app, h.over]; simp [typE, hk]
  · conv => lhs; rw [← List.take_append_drop i l]
    rw [typA_app, List.getElem?_append_right (by rw [typA_len, e2]; omega), typA_len, e2, h2, Nat.sub_self, drop_cons hx]
    simp only [typA, List.flatMap_cons, hl, List.length_append, List.length_cons, List.length_nil, List.replicate_succ, List.cons_append, List.getElem?_cons_zero]
end
/-- the times of a part's bytes -/
theorem part_times {l : List ItemD} {i got over : Nat} {x : ItemD} (h : TR l i [] got over) (hx : l[i]? = some x) (hk : x.k = 0) : ∀ m, got ≤ m → m < got + (x.t ++ [10]).length → (typA l)[m]? = some x.a := by
  intro m h1 h2
  have hl : linS x = x.t ++ [10] := by unfold linS; rw [if_pos hk]
  obtain ⟨pre, h3, h4⟩ := h.str
  have e2 : typS (l.take i) = pre := by simpa using h3
  conv => lhs; rw [← List.take_append_drop i l]
  rw [typA_app, List.getElem?_append_right (by rw [typA_len, e2]; omega), typA_len, e2, h4, drop_cons hx]
  have e3 : typA (x :: l.drop (i + 1)) = List.replicate (x.t ++ [10]).length x.a ++ typA (l.drop (i + 1)) := by simp [typA, hl]
  rw [e3, List.getElem?_append_left (by rw [List.length_replicate]; omega), List.getElem?_replicate, if_pos (by omega)]
end Go.Proofs.YtdkfppcafpjomaaGreatDoor
