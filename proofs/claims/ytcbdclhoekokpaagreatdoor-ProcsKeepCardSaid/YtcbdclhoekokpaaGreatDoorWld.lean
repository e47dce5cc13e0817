/- world: what a world is, in plain data, and how it lies in memory. -/
import Derived.Test.YtcbdclhoekokpaaGreatDoorWm
import Derived.Test.YtcbdclhoekokpaaGreatDoorBit
namespace Go.Proofs.YtcbdclhoekokpaaGreatDoor
open Go.RowKit M

abbrev Bs := List UInt8
structure WS where
  cells : Bs → Bs
  objs : Bs → Int → Option Bs
  logs : Bs → Bs
  time : Int
def zero64 : Bs := List.replicate 64 0
def pageV (s : Bs) : Value := .agg (s.map byteV).toArray
def cellsG (c : Bs → Bs) (k : Bs) : Option Value := if c k = [] then none else some (strV (c k))
def pagesG (o : Int → Option Bs) (p : Int) : Option Value := (o p).map pageV
def pageOf (o : Option Bs) : Bs := o.getD zero64
structure PagesOk (O : Bs → Int → Option Bs) : Prop where
  ok : ∀ n p s, O n p = some s → s.length = 64 ∧ s ≠ zero64 ∧ 0 ≤ p ∧ p < 256
theorem PagesOk.len {O : Bs → Int → Option Bs} (h : PagesOk O) (n : Bs) (p : Int) : (pageOf (O n p)).length = 64 := by
  unfold pageOf
  cases hq : O n p with
  | none => rfl
  | some s => exact (h.ok n p s hq).1
def assoc (L : List (Bs × Nat)) (n : Bs) : Option Nat := (L.find? fun x => decide (x.1 = n)).map (·.2)
structure ObjL (L : List (Bs × Nat)) (O : Bs → Int → Option Bs) : Prop where
  nodup : (L.map (·.1)).Nodup
  has : ∀ n, n ∈ L.map (·.1) ↔ ∃ p, O n p ≠ none
def namesG (L : List (Bs × Nat)) (n : Bs) : Option Value := (assoc L n).map fun m => .map (some m)
def thOf (O : Bs → Int → Option Bs) (x : Bs × Nat) : Th := mapT intK x.2 (pagesG (O x.1))
def objsT (b : Nat) (O : Bs → Int → Option Bs) : Th := exT fun L : List (Bs × Nat) => starL [pureT (ObjL L O), mapT strK b (namesG L), starL (L.map (thOf O))]
structure WL where
  bc : Nat
  bo : Nat
  bl : Nat
def cellsW (L : WL) (t : Int) : List Value := [.map (some L.bc), .map (some L.bo), .map (some L.bl), intV t]
def worldT (p : Nat) (W : WS) : Th := exT fun L : WL => starL [pureT (PagesOk W.objs), blkT p (cellsW L W.time), mapT strK L.bc (cellsG W.cells), objsT L.bo W.objs, mapT strK L.bl (cellsG W.logs)]
section
variable {w : World} {As : List Th}
theorem worldT_open {p : Nat} {W : WS} (h : Sat w (worldT p W :: As)) : ∃ L : WL, PagesOk W.objs ∧ Sat w (blkT p (cellsW L W.time) :: mapT strK L.bc (cellsG W.cells) :: objsT L.bo W.objs :: mapT strK L.bl (cellsG W.logs) :: As) := by
  obtain ⟨L, h⟩ := h.ex
  exact ⟨L, h.flat.pure_elim⟩
theorem worldT_shut {p : Nat} {W : WS} (L : WL) (hi : PagesOk W.objs) (h : Sat w (blkT p (cellsW L W.time) :: mapT strK L.bc (cellsG W.cells) :: objsT L.bo W.objs :: mapT strK L.bl (cellsG W.logs) :: As)) : Sat w (worldT p W :: As) :=
  Sat.ex_intro L (Sat.fold (As := [pureT (PagesOk W.objs), blkT p (cellsW L W.time), mapT strK L.bc (cellsG W.cells), objsT L.bo W.objs, mapT strK L.bl (cellsG W.logs)]) (Sat.pure_intro hi h))
theorem objsT_open {b : Nat} {O : Bs → Int → Option Bs} (h : Sat w (objsT b O :: As)) : ∃ L, ObjL L O ∧ Sat w (mapT strK b (namesG L) :: starL (L.map (thOf O)) :: As) := by
  obtain ⟨L, h⟩ := h.ex
  exact ⟨L, h.flat.pure_elim⟩
theorem objsT_shut {b : Nat} {O : Bs → Int → Option Bs} (L : List (Bs × Nat)) (hi : ObjL L O) (h : Sat w (mapT strK b (namesG L) :: starL (L.map (thOf O)) :: As)) : Sat w (objsT b O :: As) :=
  Sat.ex_intro L (Sat.fold (As := [pureT (ObjL L O), mapT strK b (namesG L), starL (L.map (thOf O))]) (Sat.pure_intro hi h))
/-- one of many things, taken out and put back -/
theorem big_out {Xs : List Th} {i : Nat} {A : Th} (h : Sat w (starL Xs :: As)) (hi : Xs[i]? = some A) : Sat w (A :: starL (Xs.eraseIdx i) :: As) := by
  have h1 := h.flat.perm ((perm_pull hi).append_right As)
  have h2 : Sat w ([A] ++ (Xs.eraseIdx i ++ As)) := by simpa using h1
  have h3 := (h2.perm List.perm_append_comm)
  rw [List.append_assoc] at h3
  exact (h3.fold.perm (List.Perm.cons _ List.perm_append_comm)).perm (List.Perm.swap _ _ _)
theorem big_in {Xs : List Th} {i : Nat} {A : Th} (h : Sat w (A :: starL Xs :: As)) : Sat w (starL (A :: Xs) :: As) := by
  have h1 := (h.perm (List.Perm.swap _ _ _)).flat
  exact (h1.perm List.perm_middle).fold (As := A :: Xs)
theorem big_perm {Xs Ys : List Th} (h : Sat w (starL Xs :: As)) (hp : Xs.Perm Ys) : Sat w (starL Ys :: As) := (h.flat.perm (hp.append_right As)).fold
end
theorem erase_map {α β : Type} (f : α → β) : ∀ (L : List α) (i : Nat), (L.map f).eraseIdx i = (L.eraseIdx i).map f
  | [], i => by simp
  | x :: L, 0 => rfl
  | x :: L, i + 1 => by rw [List.map_cons, List.eraseIdx_cons_succ, List.eraseIdx_cons_succ, List.map_cons, erase_map f L i]
theorem assoc_mem {L : List (Bs × Nat)} {n : Bs} {m : Nat} (h : assoc L n = some m) : ∃ i : Nat, L[i]? = some (n, m) := by
  unfold assoc at h
  obtain ⟨x, hx, rfl⟩ := Option.map_eq_some_iff.1 h
  have h1 := List.find?_some hx
  have h2 := List.mem_of_find?_eq_some hx
  simp at h1
  obtain ⟨i, hi⟩ := List.mem_iff_getElem?.1 h2
  exact ⟨i, by rw [hi, ← h1]⟩
theorem assoc_none {L : List (Bs × Nat)} {n : Bs} : assoc L n = none ↔ n ∉ L.map (·.1) := by
  unfold assoc
  rw [Option.map_eq_none_iff, List.find?_eq_none]
  simp
  constructor
  · intro h x hx; exact h _ _ hx rfl
  · intro h a b hab e; subst e; exact h b hab
theorem assoc_of_mem {L : List (Bs × Nat)} (hn : (L.map (·.1)).Nodup) {n : Bs} {m : Nat} (h : (n, m) ∈ L) : assoc L n = some m := by
  induction L with
  | nil => cases h
  | cons x L ih =>
    unfold assoc
    rw [List.find?_cons]
    rcases List.mem_cons.1 h with rfl | h'
    · simp
    · have hx : x.1 ≠ n := by
        rintro rfl
        simp only [List.map_cons, List.nodup_cons] at hn
        exact hn.1 (List.mem_map.2 ⟨_, h', rfl⟩)
      simp only [hx, decide_false]
      exact ih (by simp at hn; exact hn.2) h'
theorem assoc_cons {L : List (Bs × Nat)} {n : Bs} {m : Nat} (k : Bs) : assoc ((n, m) :: L) k = if k = n then some m else assoc L k := by
  unfold assoc
  rw [List.find?_cons]
  by_cases h : n = k
  · subst h; simp
  · simp [h, Ne.symm h]
theorem assoc_erase {L : List (Bs × Nat)} (hn : (L.map (·.1)).Nodup) {i : Nat} {n : Bs} {m : Nat} (hi : L[i]? = some (n, m)) (k : Bs) : assoc (L.eraseIdx i) k = if k = n then none else assoc L k := by
  induction L generalizing i with
  | nil => simp at hi
  | cons x L ih =>
    simp only [List.map_cons, List.nodup_cons] at hn
    cases i with
    | zero =>
      simp at hi; subst hi
      rw [List.eraseIdx_cons_zero, assoc_cons]
      split
      · rename_i h; subst h; exact assoc_none.2 hn.1
      · rfl
    | succ i =>
      rw [List.eraseIdx_cons_succ]
      obtain ⟨a, b⟩ := x
      rw [assoc_cons, assoc_cons, ih hn.2 (by simpa using hi)]
      have hmem : n ∈ L.map (·.1) := List.mem_map.2 ⟨(n, m), List.mem_of_getElem? (by simpa using hi), rfl⟩
      by_cases h1 : k = a
      · subst h1
        have : k ≠ n := fun e => hn.1 (by rw [e]; exact hmem)
        simp [this]
      · simp [h1]
/-- the pages of one object are others -/
theorem thOf_set {L : List (Bs × Nat)} {O O' : Bs → Int → Option Bs} (hn : (L.map (·.1)).Nodup) {i : Nat} {n : Bs} {m : Nat} (hi : L[i]? = some (n, m)) (ho : ∀ k, k ≠ n → O' k = O k) : (L.map (thOf O)).eraseIdx i = (L.eraseIdx i).map (thOf O') := by
  rw [erase_map]
  apply List.map_congr_left
  intro x hx
  have : x.1 ≠ n := by
    intro e
    have h1 := assoc_of_mem (L := L.eraseIdx i) (hn.sublist ((List.eraseIdx_sublist L i).map _)) (n := n) (m := x.2) (by rw [← e]; exact hx)
    rw [assoc_erase hn hi] at h1; simp at h1
  unfold thOf; rw [ho _ this]
theorem perm_back {L : List (Bs × Nat)} {i : Nat} {x : Bs × Nat} (hi : L[i]? = some x) (f : Bs × Nat → Th) : (f x :: (L.eraseIdx i).map f).Perm (L.map f) := by
  induction L generalizing i with
  | nil => simp at hi
  | cons y L ih =>
    cases i with
    | zero => simp at hi; subst hi; exact .refl _
    | succ i =>
      rw [List.eraseIdx_cons_succ, List.map_cons, List.map_cons]
      exact (List.Perm.swap _ _ _).trans ((ih (by simpa using hi)).cons _)

def updC (c : Bs → Bs) (k v : Bs) : Bs → Bs := fun j => if j = k then v else c j
theorem cellsG_put {c : Bs → Bs} {k v : Bs} (h : v ≠ []) : upd (cellsG c) k (some (strV v)) = cellsG (updC c k v) := by
  funext j
  by_cases hj : j = k
  · subst hj; rw [upd_self]; simp [cellsG, updC, h]
  · rw [upd_ne hj]; simp [cellsG, updC, hj]
theorem cellsG_del {c : Bs → Bs} {k : Bs} : upd (cellsG c) k none = cellsG (updC c k []) := by
  funext j
  by_cases hj : j = k
  · subst hj; rw [upd_self]; simp [cellsG, updC]
  · rw [upd_ne hj]; simp [cellsG, updC, hj]
theorem cellsG_get (c : Bs → Bs) (k : Bs) : (cellsG c k).getD (strV []) = strV (c k) := by
  unfold cellsG; split
  · rename_i h; rw [h]; rfl
  · rfl
def setO (O : Bs → Int → Option Bs) (n : Bs) (p : Int) (s : Bs) : Bs → Int → Option Bs := fun m q => if m = n ∧ q = p then (if s = zero64 then none else some s) else O m q
def byteW (W : WS) (n : Bs) (i : Int) : UInt8 := if 0 ≤ i ∧ i < 16384 then (pageOf (W.objs n (i / 64))).getD (i % 64).toNat 0 else 0
theorem pagesG_get (o : Int → Option Bs) (p : Int) : (pagesG o p).getD (pageV zero64) = pageV (pageOf (o p)) := by
  unfold pagesG pageOf; cases o p <;> rfl
theorem PagesOk.set {O : Bs → Int → Option Bs} (h : PagesOk O) {n : Bs} {p : Int} {s : Bs} (hs : s.length = 64) (hp : 0 ≤ p ∧ p < 256) : PagesOk (setO O n p s) := by
  refine ⟨fun m q t ht => ?_⟩
  unfold setO at ht
  split at ht
  · rename_i hc
    split at ht
    · cases ht
    · rename_i hz; cases ht; exact ⟨hs, hz, by omega, by omega⟩
  · exact h.ok m q t ht
end Go.Proofs.YtcbdclhoekokpaaGreatDoor
