/- A logic of separate things over whatever program: what lies in memory ('Th', 'Sat'), what is known of a frame ('Fr'), and rules that walk code by its text. Conditions: each rule's own hypotheses. -/
import Derived.Test.YtcbdclhoekokpaaGreatDoorMem
namespace Go.Proofs.YtcbdclhoekokpaaGreatDoor.M
open Go.RowKit

/-! ### things in memory -/

/-- the blocks of F, and everything but the heap, are as they were -/
structure Agree (F : Nat → Prop) (w w' : World) : Prop where
  os : w'.os = w.os
  tape : w'.tape = w.tape
  output : w'.output = w.output
  blk : ∀ k, F k → w'.heap[k]? = w.heap[k]?

/-- a thing: what it says of a world and of the blocks that it owns -/
structure Th where
  at_ : World → (Nat → Prop) → Prop
  fr : ∀ {w w' F}, Agree F w w' → at_ w F → at_ w' F
  lt : ∀ {w F}, at_ w F → ∀ k, F k → k < w.heap.size

def empT : Th := ⟨fun _ F => F = fun _ => False, fun _ h => h, fun h k hk => by subst h; exact hk.elim⟩
def pureT (φ : Prop) : Th := ⟨fun _ F => (F = fun _ => False) ∧ φ, fun _ h => h, fun h k hk => by obtain ⟨rfl, _⟩ := h; exact hk.elim⟩
def exT {α : Type} (f : α → Th) : Th := ⟨fun w F => ∃ x, (f x).at_ w F, fun a ⟨x, h⟩ => ⟨x, (f x).fr a h⟩, fun ⟨x, h⟩ k hk => (f x).lt h k hk⟩

def starT (A B : Th) : Th where
  at_ := fun w F => ∃ F1 F2, F = (fun k => F1 k ∨ F2 k) ∧ (∀ k, F1 k → F2 k → False) ∧ A.at_ w F1 ∧ B.at_ w F2
  fr := fun a ⟨F1, F2, e, d, h1, h2⟩ => by
    subst e
    exact ⟨F1, F2, rfl, d, A.fr ⟨a.os, a.tape, a.output, fun k hk => a.blk k (.inl hk)⟩ h1, B.fr ⟨a.os, a.tape, a.output, fun k hk => a.blk k (.inr hk)⟩ h2⟩
  lt := fun ⟨F1, F2, e, _, h1, h2⟩ k hk => by
    subst e
    rcases hk with hk | hk
    · exact A.lt h1 k hk
    · exact B.lt h2 k hk

def starL : List Th → Th
  | [] => empT
  | A :: As => starT A (starL As)

def Sat (w : World) (As : List Th) : Prop := ∃ F, (starL As).at_ w F

theorem starT_comm {A B : Th} {w : World} {F : Nat → Prop} (h : (starT A B).at_ w F) : (starT B A).at_ w F := by
  obtain ⟨F1, F2, rfl, d, h1, h2⟩ := h
  exact ⟨F2, F1, funext fun k => propext Or.comm, fun k a b => d k b a, h2, h1⟩

theorem starT_lcomm {A B C : Th} {w : World} {F : Nat → Prop} (h : (starT A (starT B C)).at_ w F) : (starT B (starT A C)).at_ w F := by
  obtain ⟨F1, F2, rfl, d, h1, G1, G2, rfl, e, h2, h3⟩ := h
  exact ⟨G1, fun k => F1 k ∨ G2 k, funext fun k => propext ⟨by rintro (a | a | a) <;> simp [a], by rintro (a | a | a) <;> simp [a]⟩,
    fun k a b => by rcases b with b | b; exact d k b (.inl a); exact e k a b, h2, F1, G2, rfl, fun k a b => d k a (.inr b), h1, h3⟩

theorem starT_mono {A B B' : Th} {w : World} (hb : ∀ F, B.at_ w F → B'.at_ w F) {F : Nat → Prop} (h : (starT A B).at_ w F) : (starT A B').at_ w F := by
  obtain ⟨F1, F2, rfl, d, h1, h2⟩ := h
  exact ⟨F1, F2, rfl, d, h1, hb _ h2⟩

theorem starL_perm {As Bs : List Th} (hp : As.Perm Bs) {w : World} : ∀ {F : Nat → Prop}, (starL As).at_ w F → (starL Bs).at_ w F := by
  induction hp with
  | nil => exact fun h => h
  | cons A _ ih => exact fun h => starT_mono (fun _ => ih) h
  | swap A B l => exact fun h => starT_lcomm h
  | trans _ _ ih1 ih2 => exact fun h => ih2 (ih1 h)

theorem Sat.perm {w : World} {As Bs : List Th} (h : Sat w As) (hp : As.Perm Bs) : Sat w Bs := let ⟨F, h⟩ := h; ⟨F, starL_perm hp h⟩

theorem starL_append {As Bs : List Th} {w : World} {F : Nat → Prop} : (starL (As ++ Bs)).at_ w F ↔ (starT (starL As) (starL Bs)).at_ w F := by
  induction As generalizing F with
  | nil =>
    constructor
    · intro h; exact ⟨fun _ => False, F, funext fun k => by simp, fun _ a _ => a, rfl, h⟩
    · rintro ⟨F1, F2, rfl, _, h1, h2⟩
      have : F1 = fun _ => False := h1
      subst this
      simpa using h2
  | cons A As ih =>
    constructor
    · rintro ⟨F1, F2, rfl, d, h1, h2⟩
      obtain ⟨G1, G2, rfl, e, g1, g2⟩ := ih.1 h2
      exact ⟨fun k => F1 k ∨ G1 k, G2, funext fun k => propext ⟨by rintro (a | a | a) <;> simp [a], by rintro ((a | a) | a) <;> simp [a]⟩,
        fun k a b => by rcases a with a | a; exact d k a (.inr b); exact e k a b, ⟨F1, G1, rfl, fun k a b => d k a (.inl b), h1, g1⟩, g2⟩
    · rintro ⟨F1, F2, rfl, d, ⟨G1, G2, rfl, e, g1, g2⟩, h2⟩
      exact ⟨G1, fun k => G2 k ∨ F2 k, funext fun k => propext ⟨by rintro ((a | a) | a) <;> simp [a], by rintro (a | a | a) <;> simp [a]⟩,
        fun k a b => by rcases b with b | b; exact e k a b; exact d k (.inl a) b, g1, ih.2 ⟨G2, F2, rfl, fun k a b => d k (.inr a) b, g2, h2⟩⟩

/-- a thing that is many, taken apart and put together -/
theorem Sat.flat {w : World} {As Bs : List Th} (h : Sat w (starL As :: Bs)) : Sat w (As ++ Bs) := let ⟨F, h⟩ := h; ⟨F, starL_append.2 h⟩
theorem Sat.fold {w : World} {As Bs : List Th} (h : Sat w (As ++ Bs)) : Sat w (starL As :: Bs) := let ⟨F, h⟩ := h; ⟨F, starL_append.1 h⟩

theorem perm_pull {As : List Th} {i : Nat} {A : Th} (hi : As[i]? = some A) : As.Perm (A :: As.eraseIdx i) := by
  induction As generalizing i with
  | nil => simp at hi
  | cons C As ih =>
    cases i with
    | zero => simp at hi; subst hi; simp
    | succ i =>
      simp only [List.eraseIdx_cons_succ]
      exact ((ih (by simpa using hi)).cons C).trans (List.Perm.swap _ _ _)

theorem set_perm {As : List Th} {i : Nat} {A B : Th} (hi : As[i]? = some A) : (B :: As.eraseIdx i).Perm (As.set i B) := by
  induction As generalizing i with
  | nil => simp at hi
  | cons C As ih =>
    cases i with
    | zero => simp
    | succ i =>
      simp only [List.eraseIdx_cons_succ, List.set_cons_succ]
      exact (List.Perm.swap _ _ _).trans ((ih (by simpa using hi)).cons C)

theorem Sat.pull {w : World} {As : List Th} (h : Sat w As) (i : Nat) {A : Th} (hi : As[i]? = some A) : Sat w (A :: As.eraseIdx i) := h.perm (perm_pull hi)
theorem Sat.put {w : World} {As : List Th} {A B : Th} (i : Nat) (hi : As[i]? = some A) (h : Sat w (B :: As.eraseIdx i)) : Sat w (As.set i B) := h.perm (set_perm hi)

theorem Sat.get {w : World} {As : List Th} (h : Sat w As) (i : Nat) {A : Th} (hi : As[i]? = some A) : ∃ F, A.at_ w F := by
  obtain ⟨F, F1, F2, _, _, h1, _⟩ := h.pull i hi
  exact ⟨F1, h1⟩

/-- a step has changed the first thing, and made new blocks -/
theorem Sat.step0 {w w' : World} {A A' : Th} {As : List Th} (h : Sat w (A :: As)) (hst : ∀ F, A.at_ w F → ∃ F', A'.at_ w' F' ∧ (∀ k, F' k → F k ∨ w.heap.size ≤ k) ∧ Agree (fun k => k < w.heap.size ∧ ¬ F k) w w') : Sat w' (A' :: As) := by
  obtain ⟨F, F1, F2, rfl, d, h1, h2⟩ := h
  obtain ⟨F', g1, g2, ag⟩ := hst F1 h1
  have lt2 := (starL As).lt h2
  refine ⟨_, F', F2, rfl, fun k a b => ?_, g1, (starL As).fr ⟨ag.os, ag.tape, ag.output, fun k hk => ag.blk k ⟨lt2 k hk, fun hf => d k hf hk⟩⟩ h2⟩
  rcases g2 k a with hf | hf
  · exact d k hf b
  · have := lt2 k b; omega

theorem Sat.step {w w' : World} {As : List Th} (h : Sat w As) (i : Nat) {A A' : Th} (hi : As[i]? = some A) (hst : ∀ F, A.at_ w F → ∃ F', A'.at_ w' F' ∧ (∀ k, F' k → F k ∨ w.heap.size ≤ k) ∧ Agree (fun k => k < w.heap.size ∧ ¬ F k) w w') : Sat w' (As.set i A') :=
  Sat.put i hi ((h.pull i hi).step0 hst)

/-- nothing that was there has changed; a new thing -/
theorem Sat.new {w w' : World} {As : List Th} (h : Sat w As) (ho : Only [] w w') {A : Th} {F' : Nat → Prop} (hA : A.at_ w' F') (hF : ∀ k, F' k → w.heap.size ≤ k) : Sat w' (A :: As) := by
  obtain ⟨F, h⟩ := h
  have lt := (starL As).lt h
  refine ⟨_, F', F, rfl, fun k a b => ?_, hA, (starL As).fr ⟨ho.os, ho.tape, ho.output, fun k hk => ho.block k (lt k hk) (by simp)⟩ h⟩
  have := hF k a; have := lt k b; omega

theorem Sat.only {w w' : World} {As : List Th} (h : Sat w As) (ho : Only [] w w') : Sat w' As := by
  obtain ⟨F, h⟩ := h
  have lt := (starL As).lt h
  exact ⟨F, (starL As).fr ⟨ho.os, ho.tape, ho.output, fun k hk => ho.block k (lt k hk) (by simp)⟩ h⟩

theorem Sat.mono1 {w : World} {As : List Th} (h : Sat w As) (i : Nat) {A A' : Th} (hi : As[i]? = some A) (hm : ∀ F, A.at_ w F → A'.at_ w F) : Sat w (As.set i A') := by
  refine Sat.put i hi ?_
  obtain ⟨F, F1, F2, e, d, h1, h2⟩ := h.pull i hi
  exact ⟨F, F1, F2, e, d, hm _ h1, h2⟩

theorem Sat.ex {w : World} {α : Type} {f : α → Th} {As : List Th} (h : Sat w (exT f :: As)) : ∃ x, Sat w (f x :: As) := by
  obtain ⟨F, F1, F2, e, d, ⟨x, h1⟩, h2⟩ := h
  exact ⟨x, F, F1, F2, e, d, h1, h2⟩
theorem Sat.ex_intro {w : World} {α : Type} {f : α → Th} {As : List Th} (x : α) (h : Sat w (f x :: As)) : Sat w (exT f :: As) := by
  obtain ⟨F, F1, F2, e, d, h1, h2⟩ := h
  exact ⟨F, F1, F2, e, d, ⟨x, h1⟩, h2⟩
theorem Sat.pure_elim {w : World} {φ : Prop} {As : List Th} (h : Sat w (pureT φ :: As)) : φ ∧ Sat w As := by
  obtain ⟨F, F1, F2, e, d, ⟨rfl, hp⟩, h2⟩ := h
  exact ⟨hp, F2, h2⟩
theorem Sat.pure_intro {w : World} {φ : Prop} {As : List Th} (hp : φ) (h : Sat w As) : Sat w (pureT φ :: As) := by
  obtain ⟨F, h⟩ := h
  exact ⟨F, fun _ => False, F, funext fun k => by simp, fun _ a _ => a, ⟨rfl, hp⟩, h⟩

/-- things are dropped -/
theorem Sat.tail {w : World} {A : Th} {As : List Th} (h : Sat w (A :: As)) : Sat w As := by
  obtain ⟨F, F1, F2, e, d, h1, h2⟩ := h
  exact ⟨F2, h2⟩
theorem Sat.drop {w : World} {As : List Th} (h : Sat w As) (i : Nat) {A : Th} (hi : As[i]? = some A) : Sat w (As.eraseIdx i) := (h.pull i hi).tail

/-- the things at the places is, and the others, by a mask -/
def nthA : List Th → Nat → Th
  | A :: _, 0 => A
  | _ :: As, i + 1 => nthA As i
  | [], _ => empT
def pickA (As : List Th) : List Nat → List Th
  | [] => []
  | i :: is => nthA As i :: pickA As is
def selF : List Bool → List Th → List Th
  | true :: m, _ :: As => selF m As
  | false :: m, A :: As => A :: selF m As
  | [], As => As
  | _ :: _, [] => []
def trues : Nat → List Bool → List Nat
  | _, [] => []
  | i, true :: m => i :: trues (i + 1) m
  | i, false :: m => trues (i + 1) m
/-- is: a reordering of the mask's places -/
def maskOk (k : Nat) (is : List Nat) (m : List Bool) : Bool := decide (m.length ≤ k) && decide (is.length = (trues 0 m).length) && (trues 0 m).all (is.contains ·) && is.all ((trues 0 m).contains ·) && decide (is.Nodup)

theorem nthA_get : ∀ (As : List Th) (i : Nat), nthA As i = (As[i]?).getD empT
  | [], i => by cases i <;> rfl
  | A :: As, 0 => rfl
  | A :: As, i + 1 => by simp [nthA, nthA_get As i]

theorem trues_lt : ∀ (m : List Bool) (k i : Nat), i ∈ trues k m → k ≤ i ∧ i < k + m.length
  | [], k, i, h => by simp [trues] at h
  | true :: m, k, i, h => by
    simp only [trues, List.mem_cons] at h
    rcases h with rfl | h
    · simp
    · have := trues_lt m (k + 1) i h; simp; omega
  | false :: m, k, i, h => by
    have := trues_lt m (k + 1) i h; simp; omega
theorem trues_nodup : ∀ (m : List Bool) (k : Nat), (trues k m).Nodup
  | [], _ => List.nodup_nil
  | true :: m, k => by
    simp only [trues, List.nodup_cons]
    exact ⟨fun h => by have := trues_lt m (k + 1) k h; omega, trues_nodup m _⟩
  | false :: m, k => trues_nodup m _

theorem sel_perm : ∀ (As : List Th) (m : List Bool) (k : Nat), m.length ≤ As.length → As.Perm (selF m As ++ (trues k m).map fun i => nthA As (i - k))
  | As, [], k, _ => by cases As <;> simp [selF, trues]
  | [], b :: m, k, h => by simp at h
  | A :: As, true :: m, k, h => by
    simp only [selF, trues, List.map_cons, Nat.sub_self]
    have e : (trues (k + 1) m).map (fun i => nthA (A :: As) (i - k)) = (trues (k + 1) m).map fun i => nthA As (i - (k + 1)) := by
      apply List.map_congr_left
      intro i hi
      have := (trues_lt m (k + 1) i hi).1
      rw [show i - k = (i - (k + 1)) + 1 by omega]; rfl
    rw [e]
    exact ((sel_perm As m (k + 1) (by simpa using h)).cons A).trans List.perm_middle.symm
  | A :: As, false :: m, k, h => by
    simp only [selF, trues, List.cons_append]
    have e : (trues (k + 1) m).map (fun i => nthA (A :: As) (i - k)) = (trues (k + 1) m).map fun i => nthA As (i - (k + 1)) := by
      apply List.map_congr_left
      intro i hi
      have := (trues_lt m (k + 1) i hi).1
      rw [show i - k = (i - (k + 1)) + 1 by omega]; rfl
    rw [e]
    exact (sel_perm As m (k + 1) (by simpa using h)).cons A

theorem perm_of_sub : ∀ {a b : List Nat}, a.Nodup → b.Nodup → (∀ x ∈ a, x ∈ b) → (∀ x ∈ b, x ∈ a) → a.Perm b
  | [], b, _, _, _, h2 => by
    cases b with
    | nil => exact .refl _
    | cons x b => exact absurd (h2 x (by simp)) (by simp)
  | x :: a, b, ha, hb, h1, h2 => by
    have hx : x ∈ b := h1 x (by simp)
    have hp := List.perm_cons_erase hx
    have ha' := List.nodup_cons.1 ha
    refine ((perm_of_sub ha'.2 (hb.erase x) (fun y hy => ?_) (fun y hy => ?_)).cons x).trans hp.symm
    · have hne : y ≠ x := fun e => by subst e; exact ha'.1 hy
      exact (List.mem_erase_of_ne hne).2 (h1 y (by simp [hy]))
    · have hne : y ≠ x := fun e => by subst e; exact (List.Nodup.not_mem_erase hb) hy
      have := h2 y (List.mem_of_mem_erase hy)
      rcases List.mem_cons.1 this with e | e
      · exact absurd e hne
      · exact e

theorem pickA_map (As : List Th) (is : List Nat) : pickA As is = is.map (nthA As) := by
  induction is with
  | nil => rfl
  | cons i is ih => simp [pickA, ih]

theorem Sat.split {w : World} {As : List Th} (h : Sat w As) (is : List Nat) (m : List Bool) (hm : maskOk As.length is m = true) : Sat w (pickA As is ++ [starL (selF m As)]) := by
  simp only [maskOk, Bool.and_eq_true, decide_eq_true_eq, List.all_eq_true, List.contains_iff_mem] at hm
  obtain ⟨⟨⟨⟨h1, _⟩, h3⟩, h4⟩, h5⟩ := hm
  have hp := sel_perm As m 0 h1
  have hq : is.Perm (trues 0 m) := perm_of_sub h5 (trues_nodup m 0) h4 h3
  rw [pickA_map]
  refine Sat.perm (As := starL (selF m As) :: is.map (nthA As)) ((h.perm (hp.trans ?_)).fold) (List.perm_append_comm (l₁ := [starL (selF m As)]))
  simp only [Nat.sub_zero]
  exact ((hq.map (nthA As)).symm).append_left _

theorem Sat.reorder {w : World} {As : List Th} (h : Sat w As) (is : List Nat) (hm : maskOk As.length is (List.replicate As.length true) = true) : Sat w (pickA As is) := by
  have h1 := h.split is _ hm
  have e : selF (List.replicate As.length true) As = [] := by
    clear hm h1 h
    induction As with
    | nil => rfl
    | cons A As ih => simpa [List.replicate_succ, selF] using ih
  rw [e] at h1
  obtain ⟨F, h2⟩ := h1
  obtain ⟨F1, F2, rfl, d, g1, g2⟩ := starL_append.1 h2
  exact ⟨F1, g1⟩

theorem Sat.join {w : World} {Bs As : List Th} (h : Sat w Bs) (hl : Bs.getLast? = some (starL As)) : Sat w (Bs.dropLast ++ As) := by
  have e : Bs = Bs.dropLast ++ [starL As] := by
    obtain ⟨ys, rfl⟩ := List.getLast?_eq_some_iff.1 hl
    simp
  rw [e] at h
  exact ((h.perm List.perm_append_comm).flat).perm List.perm_append_comm

/-! ### kinds of things -/

def blkT (b : Nat) (cs : List Value) : Th where
  at_ := fun w F => (F = fun k => k = b) ∧ Blk w b cs
  fr := fun a ⟨e, h⟩ => ⟨e, h.congr (a.blk _ (by rw [e]))⟩
  lt := fun ⟨e, h⟩ k hk => by rw [e] at hk; subst hk; exact h.lt

def ownT (v : Value) (n size : Nat) (xs : List Value) : Th where
  at_ := fun w F => ∃ foot, (F = fun k => k ∈ foot) ∧ Own w v n size xs foot
  fr := fun a ⟨f, e, h⟩ => ⟨f, e, h.congr fun k hk => a.blk k (by rw [e]; exact hk)⟩
  lt := fun ⟨f, e, h⟩ k hk => by rw [e] at hk; exact h.lt k hk

/-- what was there in W is as it was -/
def frameT (W : World) : Th where
  at_ := fun w F => (F = fun k => k < W.heap.size) ∧ W.heap.size ≤ w.heap.size ∧ Agree (fun k => k < W.heap.size) W w
  fr := fun {w w' F} a ⟨e, h, g⟩ => by
    subst e
    refine ⟨rfl, ?_, a.os.trans g.os, a.tape.trans g.tape, a.output.trans g.output, fun k hk => (a.blk k hk).trans (g.blk k hk)⟩
    rcases Nat.lt_or_ge w'.heap.size W.heap.size with q | q
    · have h1 := a.blk _ q
      rw [Array.getElem?_eq_none (Nat.le_refl _)] at h1
      have h2 : w'.heap.size < w.heap.size := by omega
      rw [Array.getElem?_eq_getElem h2] at h1
      cases h1
    · exact q
  lt := fun ⟨e, h, _⟩ k hk => by rw [e] at hk; omega

theorem Sat.start (W : World) : Sat W [frameT W] := ⟨_, fun k => k < W.heap.size, fun _ => False, rfl, fun _ _ h => h, ⟨rfl, Nat.le_refl _, rfl, rfl, rfl, fun _ _ => rfl⟩, rfl⟩

theorem Sat.below {W w : World} {As : List Th} (h : Sat w As) (i : Nat) (hi : As[i]? = some (frameT W)) : Below W.heap.size W w := by
  obtain ⟨F, rfl, h1, h2⟩ := h.get i hi
  exact ⟨h2.os, h2.tape, h2.output, h1, h2.blk⟩

theorem Sat.blk {w : World} {As : List Th} (h : Sat w As) (i : Nat) {b : Nat} {cs : List Value} (hi : As[i]? = some (blkT b cs)) : Blk w b cs := by
  obtain ⟨F, _, h⟩ := h.get i hi; exact h
theorem Sat.cell {w : World} {As : List Th} (h : Sat w As) (i : Nat) {b o : Nat} {cs : List Value} {v : Value} (hi : As[i]? = some (blkT b cs)) (hv : cs[o]? = some v) : w.cell? ⟨b, o, none⟩ = some v := (h.blk i hi).cell hv
theorem Sat.own {w : World} {As : List Th} (h : Sat w As) (i : Nat) {v : Value} {n size : Nat} {xs : List Value} (hi : As[i]? = some (ownT v n size xs)) : ∃ foot, Own w v n size xs foot := by
  obtain ⟨F, f, _, h⟩ := h.get i hi; exact ⟨f, h⟩

theorem Only.agree {S : List Nat} {w w' : World} (h : Only S w w') {F : Nat → Prop} (hS : ∀ x ∈ S, F x ∨ w.heap.size ≤ x) : Agree (fun k => k < w.heap.size ∧ ¬ F k) w w' :=
  ⟨h.os, h.tape, h.output, fun k hk => h.block k hk.1 (fun hm => by rcases hS k hm with q | q; exact hk.2 q; omega)⟩

/-- a row has been changed in its place -/
theorem Sat.blk_set {w w' : World} {As : List Th} (h : Sat w As) (i : Nat) {b : Nat} {cs cs' : List Value} (hi : As[i]? = some (blkT b cs)) (hb : Blk w' b cs') (ho : Only [b] w w') : Sat w' (As.set i (blkT b cs')) :=
  h.step i hi fun F ⟨e, _⟩ => ⟨F, ⟨e, hb⟩, fun k hk => .inl hk, ho.agree (fun x hx => .inl (by simp only [List.mem_singleton] at hx; subst hx; rw [e]))⟩

theorem Sat.own_set {w w' : World} {As : List Th} (h : Sat w As) (i : Nat) {v v' : Value} {n n' size size' : Nat} {xs xs' : List Value} (hi : As[i]? = some (ownT v n size xs))
    (hst : ∀ foot, Own w v n size xs foot → ∃ foot', Own w' v' n' size' xs' foot' ∧ Only foot w w' ∧ ∀ k ∈ foot', k ∈ foot ∨ w.heap.size ≤ k) : Sat w' (As.set i (ownT v' n' size' xs')) :=
  h.step i hi fun F ⟨f, e, h1⟩ => by
    obtain ⟨f', g1, g2, g3⟩ := hst f h1
    exact ⟨_, ⟨f', rfl, g1⟩, fun k hk => by rw [e]; exact g3 k hk, g2.agree (fun x hx => .inl (by rw [e]; exact hx))⟩

theorem Sat.blk_new {w w' : World} {As : List Th} (h : Sat w As) {b : Nat} {cs : List Value} (hb : Blk w' b cs) (ho : Only [] w w') (hlt : w.heap.size ≤ b) : Sat w' (blkT b cs :: As) :=
  h.new ho (A := blkT b cs) ⟨rfl, hb⟩ (fun k hk => by rw [hk]; exact hlt)

theorem own_of_blk {w : World} {b n cap size : Nat} {xs sp : List Value} (hb : Blk w b (xs ++ sp)) (hl : xs.length = n * size) (hc : n ≤ cap) (hs : (xs ++ sp).length = cap * size) : Own w (.slice (some ⟨b, 0, none⟩) n cap) n size xs [b] :=
  ⟨hl, .inr ⟨b, cap, sp, rfl, hc, hb, hs, rfl⟩⟩

/-- F says φ of whatever world it holds in -/
def Ent (F : Th) (φ : World → Prop) : Prop := ∀ {w G}, F.at_ w G → φ w
theorem Ent.sat {F : Th} {φ : World → Prop} (h : Ent F φ) {w : World} {As : List Th} (hS : Sat w As) (i : Nat) (hi : As[i]? = some F) : φ w := let ⟨_, g⟩ := hS.get i hi; h g
theorem Ent.starL {As : List Th} {A : Th} {φ : World → Prop} (h : Ent A φ) (i : Nat) (hi : As[i]? = some A) : Ent (M.starL As) φ := fun g => h.sat ⟨_, g⟩ i hi
theorem Ent.frame {W : World} {φ : World → Prop} (h : ∀ w, Below W.heap.size W w → φ w) : Ent (frameT W) φ := fun ⟨_, h1, h2⟩ => h _ ⟨h2.os, h2.tape, h2.output, h1, h2.blk⟩
theorem Ent.and {F : Th} {φ ψ : World → Prop} (h : Ent F φ) (g : Ent F ψ) : Ent F (fun w => φ w ∧ ψ w) := fun q => ⟨h q, g q⟩
theorem Ent.mono {F : Th} {φ ψ : World → Prop} (h : Ent F φ) (hm : ∀ w, φ w → ψ w) : Ent F ψ := fun q => hm _ (h q)
end Go.Proofs.YtcbdclhoekokpaaGreatDoor.M
