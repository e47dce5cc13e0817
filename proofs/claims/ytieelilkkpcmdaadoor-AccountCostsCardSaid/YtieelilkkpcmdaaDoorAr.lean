/- areas, in plain data -/
import Derived.Test.YtieelilkkpcmdaaDoorAl
namespace Go.Proofs.YtieelilkkpcmdaaDoor
open Go.RowKit M
set_option linter.unusedVariables false
structure ArD where
  at_ : Int
  n : Int
  obj : Bs
  first : Int
  sh : Bool
  wr : Bool
def arV (a : ArD) : List Value := [intV a.at_, intV a.n, strV a.obj, intV a.first, .bool a.sh, .bool a.wr]
def arC : RowC ArD := ⟨arV, 6, by decide, fun _ => rfl, fun _ => rfl⟩
def arZ : ArD := ⟨0, 0, [], 0, false, false⟩
def wA (a : ArD) : Int := if a.sh = true then 0 else a.n
def costL : List ArD → Int
  | [] => 0
  | a :: r => wA a + costL r
theorem costL_app : ∀ l m : List ArD, costL (l ++ m) = costL l + costL m
  | [], m => by simp [costL]
  | a :: l, m => by simp only [List.cons_append, costL, costL_app l m]; omega
theorem costL_step {l : List ArD} {i : Nat} {a : ArD} (h : l[i]? = some a) : costL (l.take (i + 1)) = costL (l.take i) + wA a := by
  rw [List.take_add_one, h, costL_app]; simp [costL]
structure OkA (a : ArD) : Prop where
  lo : 0 ≤ a.at_
  n1 : 1 ≤ a.n
  hi : a.at_ + a.n ≤ 256
  f0 : 0 ≤ a.first
  f1 : a.first ≤ 1000
def validA (a : ArD) : Bool := decide (0 ≤ a.at_ ∧ 1 ≤ a.n ∧ a.n ≤ 256 ∧ a.at_ ≤ 256 - a.n ∧ 0 ≤ a.first ∧ a.first ≤ 256 - a.n ∧ a.obj ≠ [])
def vL : Int → List ArD → Bool
  | _, [] => true
  | e, a :: r => validA a && decide (e ≤ a.at_) && vL (a.at_ + a.n) r
def validL (l : List ArD) : Bool := vL 0 l && decide (l.length ≤ 16)
theorem ok_of_valid {a : ArD} (h : validA a = true) : OkA a := by
  have := of_decide_eq_true h
  exact ⟨this.1, this.2.1, by omega, this.2.2.2.2.1, by omega⟩
theorem vL_ok : ∀ (l : List ArD) (e : Int), vL e l = true → ∀ a ∈ l, OkA a ∧ e ≤ a.at_
  | [], _, _, a, ha => by cases ha
  | x :: r, e, h, a, ha => by
    simp only [vL, Bool.and_eq_true, decide_eq_true_eq] at h
    have hx := ok_of_valid h.1.1
    rcases List.mem_cons.1 ha with rfl | ha
    · exact ⟨hx, h.1.2⟩
    · have h4 := vL_ok r _ h.2 a ha
      have h5 := hx.n1
      have h3 := h.1.2
      have h6 := h4.2
      exact ⟨h4.1, by omega⟩
def inA (p : Int) (a : ArD) : Bool := decide (a.at_ ≤ p) && decide (p < a.at_ + a.n)
def findA (l : List ArD) (p : Int) : Option ArD := l.find? (inA p)
def priv (l : List ArD) (p : Int) : Int := match findA l p with | some a => if a.sh = true then 0 else 1 | none => 0
def sumP (f : Int → Int) : Nat → Int
  | 0 => 0
  | q + 1 => sumP f q + f (q : Int)
theorem priv_cons {a : ArD} {r : List ArD} {p : Int} : priv (a :: r) p = if inA p a = true then (if a.sh = true then 0 else 1) else priv r p := by
  unfold priv findA
  rw [List.find?_cons]
  cases inA p a <;> rfl
theorem priv_far {e : Int} {r : List ArD} (h : vL e r = true) {p : Int} (hp : p < e) : priv r p = 0 := by
  unfold priv
  cases hf : findA r p with
  | none => rfl
  | some a =>
    have h1 := List.find?_some hf
    have h2 := (vL_ok r e h a (List.mem_of_find?_eq_some hf)).2
    simp only [inA, Bool.and_eq_true, decide_eq_true_eq] at h1
    omega
theorem sum_cons {a : ArD} {r : List ArD} (ha : OkA a) (h : vL (a.at_ + a.n) r = true) : ∀ q : Nat, sumP (priv (a :: r)) q = (if a.sh = true then 0 else max 0 (min (q : Int) (a.at_ + a.n) - a.at_)) + sumP (priv r) q
  | 0 => by have := ha.lo; have := ha.n1; simp only [sumP]; split <;> omega
  | q + 1 => by
    have h1 := ha.lo
    have h2 := ha.n1
    simp only [sumP]
    rw [sum_cons ha h q, priv_cons]
    by_cases hin : inA (q : Int) a = true
    · rw [if_pos hin]
      have h3 := hin
      simp only [inA, Bool.and_eq_true, decide_eq_true_eq] at h3
      rw [priv_far h (p := (q : Int)) (by omega)]
      split <;> omega
    · rw [if_neg hin]
      have h3 : ¬ (a.at_ ≤ (q : Int) ∧ (q : Int) < a.at_ + a.n) := by simpa [inA] using hin
      split <;> omega
theorem sum_cost : ∀ (l : List ArD) (e : Int), vL e l = true → sumP (priv l) 256 = costL l
  | [], _, _ => by
    have : ∀ q, sumP (priv []) q = 0 := fun q => by induction q with | zero => rfl | succ q ih => simp only [sumP, ih]; rfl
    exact this 256
  | a :: r, e, h => by
    simp only [vL, Bool.and_eq_true, decide_eq_true_eq] at h
    have ha := ok_of_valid h.1.1
    have h1 := ha.lo
    have h2 := ha.n1
    have h3 := ha.hi
    rw [sum_cons ha h.2, sum_cost r _ h.2, costL, wA]
    split <;> omega
theorem sum_bound {l : List ArD} : ∀ q : Nat, 0 ≤ sumP (priv l) q ∧ sumP (priv l) q ≤ q
  | 0 => by simp [sumP]
  | q + 1 => by
    have h := sum_bound (l := l) q
    have h2 : 0 ≤ priv l (q : Int) ∧ priv l (q : Int) ≤ 1 := by
      unfold priv; split
      · split <;> omega
      · omega
    simp only [sumP]; omega
/-- the part of an area -/
def partA (a : ArD) (f t : Int) : ArD := { a with at_ := max f a.at_, n := min t (a.at_ + a.n) - max f a.at_, first := a.first + (max f a.at_ - a.at_) }
def partO (a : ArD) (f t : Int) : Bool := decide (max f a.at_ < min t (a.at_ + a.n))
def unm1 (p n : Int) (a : ArD) : List ArD := (if partO a 0 p = true then [partA a 0 p] else []) ++ (if partO a (p + n) 256 = true then [partA a (p + n) 256] else [])
def unmL (p n : Int) (l : List ArD) : List ArD := l.flatMap (unm1 p n)
theorem unmL_step {p n : Int} {l : List ArD} {i : Nat} {a : ArD} (h : l[i]? = some a) : unmL p n (l.take (i + 1)) = unmL p n (l.take i) ++ unm1 p n a := by
  unfold unmL; rw [List.take_add_one, h, List.flatMap_append]; simp
theorem unm1_len (p n : Int) (a : ArD) : (unm1 p n a).length ≤ 2 := by
  unfold unm1; split <;> split <;> simp
theorem unmL_len (p n : Int) : ∀ l : List ArD, (unmL p n l).length ≤ 2 * l.length
  | [] => by simp [unmL]
  | a :: r => by
    have h1 := unmL_len p n r
    have h2 := unm1_len p n a
    have e : unmL p n (a :: r) = unm1 p n a ++ unmL p n r := rfl
    rw [e, List.length_append, List.length_cons]; omega
theorem part_ok {a : ArD} {f t : Int} (ha : OkA a) (hf : 0 ≤ f) (hff : a.first ≤ 500) (h : partO a f t = true) : OkA (partA a f t) := by
  have h1 := of_decide_eq_true h
  obtain ⟨a1, a2, a3, a4, a5⟩ := ha
  refine ⟨?_, ?_, ?_, ?_, ?_⟩ <;> simp only [partA] <;> omega
theorem cost_if {b : Bool} {l : List ArD} : costL (if b = true then l else []) = if b = true then costL l else 0 := by split <;> rfl
theorem unmL_if {p n : Int} {b : Bool} {x : ArD} : unmL p n (if b = true then [x] else []) = if b = true then unm1 p n x else [] := by split <;> simp [unmL]
theorem unmL_app (p n : Int) (l m : List ArD) : unmL p n (l ++ m) = unmL p n l ++ unmL p n m := List.flatMap_append
theorem cost_unm1 (p n : Int) (a : ArD) : costL (unm1 p n a) = if a.sh = true then 0 else max 0 (min p (a.at_ + a.n) - max 0 a.at_) + max 0 (min 256 (a.at_ + a.n) - max (p + n) a.at_) := by
  have hw : ∀ f t, costL [partA a f t] = if a.sh = true then 0 else min t (a.at_ + a.n) - max f a.at_ := fun f t => by
    have e1 : costL [partA a f t] = (if (partA a f t).sh = true then 0 else (partA a f t).n) + 0 := rfl
    have e2 : (partA a f t).sh = a.sh := rfl
    have e3 : (partA a f t).n = min t (a.at_ + a.n) - max f a.at_ := rfl
    rw [e1, e2, e3]
    split <;> omega
  unfold unm1
  rw [costL_app, cost_if, cost_if, hw, hw]
  simp only [partO, decide_eq_true_eq]
  (repeat' split) <;> omega
theorem cost1 {p n : Int} {a : ArD} (ha : OkA a) (hp : 0 ≤ p) (hn : 0 ≤ n) : 0 ≤ costL (unm1 p n a) ∧ costL (unm1 p n a) ≤ wA a := by
  obtain ⟨a1, a2, a3, a4, a5⟩ := ha
  rw [cost_unm1, wA]
  split <;> omega
theorem costU : ∀ {l : List ArD} {p n : Int}, (∀ a ∈ l, OkA a) → 0 ≤ p → 0 ≤ n → 0 ≤ costL (unmL p n l) ∧ costL (unmL p n l) ≤ costL l
  | [], p, n, _, _, _ => by simp [unmL, costL]
  | a :: r, p, n, h, hp, hn => by
    have h1 := cost1 (h a (by simp)) hp hn
    have h2 := costU (l := r) (fun x hx => h x (by simp [hx])) hp hn
    have e : unmL p n (a :: r) = unm1 p n a ++ unmL p n r := rfl
    rw [e, costL_app, costL]; omega
set_option maxHeartbeats 4000000 in
theorem two1 {p n c : Int} {a : ArD} (ha : OkA a) (hp : 0 ≤ p) (hc : 0 < c) (hcn : c < n) (hpn : p + n ≤ 256) : costL (unmL (p + c) (n - c) (unm1 p c a)) = costL (unm1 p n a) := by
  obtain ⟨a1, a2, a3, a4, a5⟩ := ha
  have e : unm1 p c a = (if partO a 0 p = true then [partA a 0 p] else []) ++ (if partO a (p + c) 256 = true then [partA a (p + c) 256] else []) := rfl
  rw [e, unmL_app, costL_app, unmL_if, unmL_if, cost_if, cost_if, cost_unm1, cost_unm1, cost_unm1]
  simp only [partO, partA, decide_eq_true_eq]
  by_cases hs : a.sh = true
  · simp [hs]
  · simp only [hs, if_false]
    (repeat' split) <;> omega
theorem two_step : ∀ {l : List ArD} {p n c : Int}, (∀ a ∈ l, OkA a) → 0 ≤ p → 0 < c → c < n → p + n ≤ 256 → costL (unmL (p + c) (n - c) (unmL p c l)) = costL (unmL p n l)
  | [], _, _, _, _, _, _, _, _ => rfl
  | a :: r, p, n, c, h, hp, hc, hcn, hpn => by
    have e1 : unmL p c (a :: r) = unm1 p c a ++ unmL p c r := rfl
    have e2 : unmL p n (a :: r) = unm1 p n a ++ unmL p n r := rfl
    have e3 : unmL (p + c) (n - c) (unm1 p c a ++ unmL p c r) = unmL (p + c) (n - c) (unm1 p c a) ++ unmL (p + c) (n - c) (unmL p c r) := List.flatMap_append
    rw [e1, e2, e3, costL_app, costL_app, two1 (h a (by simp)) hp hc hcn hpn, two_step (fun x hx => h x (by simp [hx])) hp hc hcn hpn]
end Go.Proofs.YtieelilkkpcmdaaDoor
