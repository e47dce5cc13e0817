/- the reference of layer 3: how its disk lies in memory; plain facts. -/
import Derived.Test.YtcbdclhoekokpaaGreatDoorRow
import Derived.Test.YtcbdclhoekokpaaGreatDoorDk
namespace Go.Proofs.YtcbdclhoekokpaaGreatDoor
open Go.RowKit M

def rfC : RowC (Int × Bytes × Bytes) := ⟨fun x => [intV x.1, strV x.2.1, strV x.2.2], 3, by decide, fun _ => rfl, fun _ => rfl⟩
def scC : RowC (Int × Int) := ⟨fun p => [intV p.1, intV p.2], 2, by decide, fun _ => rfl, fun _ => rfl⟩
def inC : RowC Int := ⟨fun x => [intV x], 1, by decide, fun _ => rfl, fun _ => rfl⟩
theorem RdI.toL {v : Value} {l : List Int} {w : World} (h : RdI v l w) : RdL inC v l w := by
  obtain ⟨ao, cap, h1, h2, h3⟩ := h
  refine ⟨ao, cap, h1, h2, fun i x hx => ?_⟩
  obtain ⟨b, off, e, hc⟩ := h3 i x hx
  refine ⟨b, off, e, fun j u hu => ?_⟩
  cases j with
  | zero => have : inC.size = 1 := rfl; rw [this, Nat.mul_one, Nat.add_zero]; simp [inC] at hu; subst hu; exact hc
  | succ j => simp [inC] at hu

/-- the file of a number: the first one in the list -/
def getR : List (Int × Bytes × Bytes) → Int → Bytes × Bytes
  | [], _ => ([], [])
  | x :: l, f => if x.1 = f then x.2 else getR l f
structure RInv (l : List (Int × Bytes × Bytes)) (D : DS) : Prop where
  inv : DInv D
  says : ∀ k, getR l k = D.F k
  num : ∀ x ∈ l, 0 ≤ x.1 ∧ x.1 < 16
  nodup : (l.map (·.1)).Nodup
structure RL where
  fv : Value
  qv : Value
  l : List (Int × Bytes × Bytes)
def cellsR (L : RL) (kp : Value) (D : DS) : List Value := [L.fv, L.qv, intV D.lost, .bool D.down, intV D.armed, kp]
def refT (p : Nat) (kp : Value) (D : DS) : Th := exT fun L : RL => starL [pureT (RInv L.l D), blkT p (cellsR L kp D), rowT rfC L.fv L.l, rowT scC L.qv D.Q]
theorem refT_open {w : World} {p : Nat} {kp : Value} {D : DS} {As : List Th} (h : Sat w (refT p kp D :: As)) : ∃ L : RL, RInv L.l D ∧ Sat w (blkT p (cellsR L kp D) :: rowT rfC L.fv L.l :: rowT scC L.qv D.Q :: As) := by
  obtain ⟨L, h⟩ := h.ex
  exact ⟨L, h.flat.pure_elim⟩
theorem refT_shut {w : World} {p : Nat} {kp : Value} {D : DS} {As : List Th} (L : RL) (hi : RInv L.l D) (h : Sat w (blkT p (cellsR L kp D) :: rowT rfC L.fv L.l :: rowT scC L.qv D.Q :: As)) : Sat w (refT p kp D :: As) :=
  Sat.ex_intro L (Sat.fold (As := [pureT (RInv L.l D), blkT p (cellsR L kp D), rowT rfC L.fv L.l, rowT scC L.qv D.Q]) (Sat.pure_intro hi h))

theorem getR_none {l : List (Int × Bytes × Bytes)} {f : Int} (h : ∀ x ∈ l, x.1 ≠ f) : getR l f = ([], []) := by
  induction l with
  | nil => rfl
  | cons x l ih => rw [getR, if_neg (h x (by simp)), ih fun y hy => h y (by simp [hy])]
theorem getR_at {l : List (Int × Bytes × Bytes)} {i : Nat} {x : Int × Bytes × Bytes} (h : l[i]? = some x) (hno : ∀ j y, j < i → l[j]? = some y → y.1 ≠ x.1) : getR l x.1 = x.2 := by
  induction l generalizing i with
  | nil => simp at h
  | cons y l ih =>
    cases i with
    | zero => simp at h; subst h; simp [getR]
    | succ i =>
      rw [getR, if_neg (hno 0 y (by omega) rfl)]
      exact ih (by simpa using h) fun j z hj hz => hno (j + 1) z (by omega) (by simpa using hz)
theorem getR_app {l m : List (Int × Bytes × Bytes)} {f : Int} (h : ∀ x ∈ l, x.1 ≠ f) : getR (l ++ m) f = getR m f := by
  induction l with
  | nil => rfl
  | cons x l ih => rw [List.cons_append, getR, if_neg (h x (by simp)), ih fun y hy => h y (by simp [hy])]
theorem getR_filter {l : List (Int × Bytes × Bytes)} {f k : Int} (h : k ≠ f) (m : List (Int × Bytes × Bytes)) (hm : getR m k = ([], [])) : getR (l.filter (fun x => decide (x.1 ≠ f)) ++ m) k = getR l k := by
  induction l with
  | nil => exact hm
  | cons x l ih =>
    by_cases e : x.1 = f
    · rw [List.filter_cons_of_neg (by simp [e]), ih, getR, if_neg (by omega)]
    · rw [List.filter_cons_of_pos (by simp [e]), List.cons_append, getR, getR, ih]
def putR (l : List (Int × Bytes × Bytes)) (x : Int × Bytes × Bytes) : List (Int × Bytes × Bytes) := l.filter (fun y => decide (y.1 ≠ x.1)) ++ [x]
theorem putR_says {l : List (Int × Bytes × Bytes)} {F : Int → Bytes × Bytes} (h : ∀ k, getR l k = F k) (x : Int × Bytes × Bytes) (k : Int) : getR (putR l x) k = setF F x.1 x.2 k := by
  unfold putR setF
  by_cases e : k = x.1
  · subst e
    rw [getR_app (fun y hy => by simpa using (List.mem_filter.1 hy).2), if_pos rfl]
    simp [getR]
  · rw [getR_filter e [x] (by rw [getR, if_neg (Ne.symm e)]; rfl), if_neg e]; exact h k
theorem RInv.put {l : List (Int × Bytes × Bytes)} {D : DS} (h : RInv l D) (k : Int) (a b : Bytes) (hk : 0 ≤ k ∧ k < 16) (ha : a.length ≤ 16777216) (hb : b.length ≤ 16777216) : RInv (putR l (k, a, b)) { D with F := setF D.F k (a, b) } := by
  refine ⟨{ h.inv with now := fun j => ?_, last := fun j => ?_ }, putR_says h.says (k, a, b), fun x hx => ?_, ?_⟩
  · simp only [setF]; split
    · exact ha
    · exact h.inv.now j
  · simp only [setF]; split
    · exact hb
    · exact h.inv.last j
  · rcases List.mem_append.1 hx with q | q
    · exact h.num x (List.mem_filter.1 q).1
    · simp at q; subst q; exact hk
  · unfold putR
    rw [List.map_append]
    refine List.nodup_append.2 ⟨(h.nodup.sublist (List.filter_sublist.map _)), by simp, ?_⟩
    intro x hx y hy e
    obtain ⟨z, hz, rfl⟩ := List.mem_map.1 hx
    simp at hy
    have := (List.mem_filter.1 hz).2
    simp at this
    exact this (e.trans hy)
theorem RInv.count {l : List (Int × Bytes × Bytes)} {D : DS} (h : RInv l D) : l.length ≤ 16 := by
  have hs : ∀ x ∈ (l.map (·.1)).map Int.toNat, x ∈ List.range 16 := by
    intro x hx
    obtain ⟨y, hy, rfl⟩ := List.mem_map.1 hx
    obtain ⟨z, hz, rfl⟩ := List.mem_map.1 hy
    have := h.num z hz
    simp; omega
  have hm : ((l.map (·.1)).map Int.toNat).Nodup := by
    refine List.pairwise_map.2 (h.nodup.imp_of_mem ?_)
    intro a b ha hb hne e
    obtain ⟨z, hz, rfl⟩ := List.mem_map.1 ha
    obtain ⟨y, hy, rfl⟩ := List.mem_map.1 hb
    have := h.num z hz; have := h.num y hy
    exact hne (by omega)
  have := List.Nodup.length_le_of_subset hm hs
  simpa using this
theorem RInv.upd {l : List (Int × Bytes × Bytes)} {D D' : DS} (h : RInv l D) (hF : D'.F = D.F) (hi : DInv D') : RInv l D' := ⟨hi, fun k => by rw [hF]; exact h.says k, h.num, h.nodup⟩
end Go.Proofs.YtcbdclhoekokpaaGreatDoor
