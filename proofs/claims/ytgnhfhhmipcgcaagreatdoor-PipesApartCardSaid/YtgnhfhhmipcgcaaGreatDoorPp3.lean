/- pipes, in plain data: what do does -/
import Derived.Test.YtgnhfhhmipcgcaaGreatDoorPp2
import Derived.Test.YtgnhfhhmipcgcaaGreatDoorWd
namespace Go.Proofs.YtgnhfhhmipcgcaaGreatDoor
open Go.RowKit M
set_option linter.unusedVariables false
/-- how many keys begin so -/
def CntOf (c : Bs → Bs) (pre : Bs) (n : Nat) : Prop := ∃ l0 : List Bs, n = l0.length ∧ l0.Nodup ∧ ∀ k, k ∈ l0 ↔ c k ≠ [] ∧ Lib.hasPrefix k pre = true
theorem CntOf.one {c : Bs → Bs} {pre : Bs} {n m : Nat} (h : CntOf c pre n) (h' : CntOf c pre m) : n = m := by
  obtain ⟨a, rfl, ha, hm⟩ := h
  obtain ⟨b, rfl, hb, hm'⟩ := h'
  have hp : a.Perm b := (List.perm_ext_iff_of_nodup ha hb).2 fun k => (hm k).trans (hm' k).symm
  exact hp.length_eq
theorem CntOf.keys {c : Bs → Bs} {pre : Bs} {l : List Bs} (h : KeysOf c pre l) : CntOf c pre l.length := by
  obtain ⟨l0, rfl, hn, hm⟩ := h
  exact ⟨l0, by rw [sortS_len], hn, hm⟩
open Classical in
noncomputable def keyN (W : WS) : Nat := if h : ∃ n, CntOf W.cells [112, 47] n then Classical.choose h else 0
theorem keyN_eq {W : WS} {n : Nat} (h : CntOf W.cells [112, 47] n) : keyN W = n := by
  have hx : ∃ n, CntOf W.cells [112, 47] n := ⟨n, h⟩
  unfold keyN
  rw [dif_pos hx]
  exact (Classical.choose_spec hx).one h
structure PI (W : WS) (n : Nat) : Prop where
  few : ∃ ks : List Bs, ks.length ≤ n ∧ ∀ k, W.cells k ≠ [] → k ∈ ks
  short : ∀ k, W.cells k ≠ [] → k.length ≤ 1000
  val : ∀ k, (W.cells k).length ≤ 1000
theorem PI.empty : PI emptyW 0 := ⟨⟨[], by simp, fun k h => absurd rfl h⟩, fun k h => absurd rfl h, fun k => by simp [emptyW]⟩
theorem PI.up {W : WS} {n : Nat} (h : PI W n) : PI W (n + 1) := ⟨let ⟨ks, h1, h2⟩ := h.few; ⟨ks, by omega, h2⟩, h.short, h.val⟩
theorem PI.put {W : WS} {n : Nat} (h : PI W n) {k v : Bs} (hk : k.length ≤ 1000) (hv : v.length ≤ 1000) : PI (putS W k v) (n + 1) := by
  obtain ⟨ks, h1, h2⟩ := h.few
  refine ⟨⟨k :: ks, by simp; omega, fun j hj => ?_⟩, fun j hj => ?_, fun j => ?_⟩
  · by_cases e : j = k
    · exact e ▸ List.mem_cons_self
    · refine List.mem_cons_of_mem _ (h2 j ?_)
      simp only [putS, updC] at hj; rwa [if_neg e] at hj
  · by_cases e : j = k
    · exact e ▸ hk
    · refine h.short j ?_
      simp only [putS, updC] at hj; rwa [if_neg e] at hj
  · simp only [putS, updC]
    split
    · exact hv
    · exact h.val j
theorem PI.kin {W : WS} {n : Nat} (h : PI W n) (hn : n ≤ 1000) : KeysIn W.cells 1000000 := by
  obtain ⟨ks, h1, h2⟩ := h.few
  exact ⟨⟨ks, by omega, h2⟩, h.short⟩
theorem PI.len {W : WS} {n : Nat} (h : PI W n) (k : Bs) : (W.cells k).length ≤ 1000000 := by have := h.val k; omega
theorem encP_len {p : PipeD} (hd : p.d.length ≤ 64) (hr : inI p.r) (hw : inI p.w) : (encP p).length ≤ 500 := by
  have h1 := (itoa_len (n := (p.d.length : Int)) (by unfold inI; omega)).1
  have h2 := (itoa_len hr).1
  have h3 := (itoa_len hw).1
  unfold encP encT
  simp only [List.length_append, List.length_cons, List.length_nil]; omega
theorem kP_len (id : Bs) : (kP id).length = id.length + 2 := by simp [kP]
theorem wrap_if (n : Int) : IntKind.i64.wrap n = if 9223372036854775808 ≤ n % 18446744073709551616 then n % 18446744073709551616 - 18446744073709551616 else n % 18446744073709551616 := by simp [IntKind.wrap, IntKind.signed, IntKind.bits]
theorem wrap_inI (n : Int) : inI (IntKind.i64.wrap n) := by
  unfold inI
  have e1 := Int.emod_nonneg n (show (18446744073709551616 : Int) ≠ 0 by decide)
  have e2 := Int.emod_lt_of_pos n (show (0 : Int) < 18446744073709551616 by decide)
  rw [wrap_if]; split <;> omega
theorem OkP.ri {p : PipeD} (h : OkP p) : inI p.r := by have := h.r; unfold inI; omega
theorem OkP.wi {p : PipeD} (h : OkP p) : inI p.w := by have := h.w; unfold inI; omega
theorem addE_in {p : PipeD} (h : OkP p) (wr : Bool) (n : Int) : (addE p wr n).d.length ≤ 64 ∧ inI (addE p wr n).r ∧ inI (addE p wr n).w := by
  unfold addE
  split
  · exact ⟨h.d, h.ri, wrap_inI _⟩
  · exact ⟨h.d, wrap_inI _, h.wi⟩
section
variable {W : WS} {n : Nat} (h : PI W n) {id : Bs} (hi : id.length ≤ 200)
include h hi
theorem PI.set {p : PipeD} (hd : p.d.length ≤ 64) (hr : inI p.r) (hw : inI p.w) : PI (setP W id p) (n + 1) := h.put (by rw [kP_len]; omega) (by have := encP_len hd hr hw; omega)
theorem PI.opn (wr : Bool) : PI (openP W id wr) (n + 1) := by
  unfold openP; split
  · exact h.up
  · rename_i p hp
    have := addE_in (gP_ok hp) wr 1
    exact h.set hi this.1 this.2.1 this.2.2
theorem PI.cls (wr : Bool) : PI (closeP W id wr) (n + 1) := by
  unfold closeP; split
  · exact h.up
  · rename_i p hp
    have := addE_in (gP_ok hp) wr (-1)
    split
    · exact h.up
    · split
      · exact h.put (by rw [kP_len]; omega) (by simp)
      · exact h.set hi this.1 this.2.1 this.2.2
theorem PI.read (k : Int) : PI (readP W id k) (n + 1) := by
  unfold readP; split
  · exact h.up
  · rename_i p hp
    have ho := gP_ok hp
    split
    · exact h.up
    · exact h.set hi (by have := ho.d; simp only [List.length_drop]; omega) ho.ri ho.wi
theorem PI.write (s : Bs) : PI (writeP W id s) (n + 1) := by
  unfold writeP; split
  · exact h.up
  · rename_i p hp
    have ho := gP_ok hp
    have hd := ho.d
    split
    · exact h.up
    · exact h.set hi (by simp only [List.length_append, List.length_take]; omega) ho.ri ho.wi
theorem PI.make (k : Nat) : PI (mkP W id k) (n + 1) := by
  unfold mkP; split
  · exact h.set hi (by simp) (by unfold inI; simp) (by unfold inI; simp)
  · exact h.up
end
structure OpP where
  k : Int
  id : Bs
  wr : Bool
  n : Int
  s : Bs
def oV (o : OpP) : List Value := [intV o.k, strV o.id, .bool o.wr, intV o.n, strV o.s]
def oC : RowC OpP := ⟨oV, 5, by decide, fun _ => rfl, fun _ => rfl⟩
def fewO (m : Int) (l : List OpP) : Bool := (l.all fun o => decide (o.id.length ≤ 200) && decide (o.s.length ≤ 200)) && decide ((l.length : Int) ≤ m)
theorem fewO_bad {m : Int} {l : List OpP} {i : Nat} {o : OpP} (ho : l[i]? = some o) (h : 200 < (o.id.length : Int) ∨ 200 < (o.s.length : Int)) : fewO m l = false := by
  have : (l.all fun o => decide (o.id.length ≤ 200) && decide (o.s.length ≤ 200)) = false := by
    rw [List.all_eq_false]; exact ⟨o, List.mem_of_getElem? ho, by simp; omega⟩
  simp [fewO, this]
theorem fewO_end {m : Int} {l : List OpP} {i : Nat} (hok : ∀ j o, j < i → l[j]? = some o → o.id.length ≤ 200 ∧ o.s.length ≤ 200) (hi : i = l.length) : decide ((l.length : Int) ≤ m) = fewO m l := by
  have : (l.all fun o => decide (o.id.length ≤ 200) && decide (o.s.length ≤ 200)) = true := by
    rw [List.all_eq_true]; intro o ho
    obtain ⟨j, hj⟩ := List.mem_iff_getElem?.1 ho
    have := hok j o (by have := (List.getElem?_eq_some_iff.1 hj).1; omega) hj
    simp; omega
  simp only [fewO, this, Bool.true_and]
theorem fewO_get {m : Int} {l : List OpP} {i : Nat} {o : OpP} (h : fewO m l = true) (ho : l[i]? = some o) : o.id.length ≤ 200 ∧ o.s.length ≤ 200 := by
  simp only [fewO, Bool.and_eq_true] at h
  have := List.all_eq_true.1 h.1 o (List.mem_of_getElem? ho)
  simpa using this
theorem fewO_len {m : Int} {l : List OpP} (h : fewO m l = true) : (l.length : Int) ≤ m := by
  simp only [fewO, Bool.and_eq_true] at h
  exact of_decide_eq_true h.2
theorem pick_eq {n m : Int} (hm : 0 < m) : n % m = if n.tmod m < 0 then n.tmod m + m else n.tmod m := by
  have h1 := Int.emod_nonneg n (show m ≠ 0 by omega)
  have h2 := Int.emod_lt_of_pos n hm
  rcases Int.le_total 0 n with h | h
  · rw [Int.tmod_eq_emod_of_nonneg h, if_neg (by omega)]
  · have h7 : (-n).tmod m = -(n.tmod m) := Int.neg_tmod n m
    rw [Int.tmod_eq_emod_of_nonneg (show 0 ≤ -n by omega)] at h7
    have h8 := Int.emod_nonneg (-n) (show m ≠ 0 by omega)
    have h9 := Int.emod_lt_of_pos (-n) hm
    have h10 : n.tmod m = -((-n) % m) := by omega
    rw [h10]
    by_cases h0 : (-n) % m = 0
    · rw [h0, if_neg (by omega)]
      have h11 : m ∣ n := Int.dvd_neg.1 (Int.dvd_of_emod_eq_zero h0)
      rw [Int.emod_eq_zero_of_dvd h11]; rfl
    · rw [if_pos (by omega)]
      have e : n = (-((-n) % m) + m) + m * (-((-n) / m) - 1) := by
        have h12 := Int.emod_add_mul_ediv (-n) m
        rw [Int.mul_sub, Int.mul_neg, Int.mul_one]; omega
      have e3 : n % m = (-((-n) % m) + m) % m := by
        conv => lhs; rw [e]
        rw [Int.add_mul_emod_self_left]
      rw [e3]
      exact Int.emod_eq_of_lt (by omega) (by omega)
noncomputable def doV (W : WS) (o : OpP) : Bs × Int × Int := if o.k % 6 = 0 then ([], 0, mkE W o.id (keyN W)) else if o.k % 6 = 1 then ([], 0, openE W o.id) else if o.k % 6 = 2 then ([], 0, closeE W o.id o.wr) else if o.k % 6 = 3 then ((readV W o.id o.n).1, 0, (readV W o.id o.n).2) else if o.k % 6 = 4 then ([], (writeV W o.id o.s).1, (writeV W o.id o.s).2) else ([], (if canB W o.id o.wr o.n = true then 1 else 0), 0)
noncomputable def doP (W : WS) (o : OpP) : WS := if o.k % 6 = 0 then mkP W o.id (keyN W) else if o.k % 6 = 1 then openP W o.id o.wr else if o.k % 6 = 2 then closeP W o.id o.wr else if o.k % 6 = 3 then readP W o.id o.n else if o.k % 6 = 4 then writeP W o.id o.s else W
theorem PI.doP {W : WS} {n : Nat} (h : PI W n) {o : OpP} (hi : o.id.length ≤ 200) : PI (doP W o) (n + 1) := by
  unfold Go.Proofs.YtgnhfhhmipcgcaaGreatDoor.doP
  split
  · exact h.make hi _
  split
  · exact h.opn hi _
  split
  · exact h.cls hi _
  split
  · exact h.read hi _
  split
  · exact h.write hi _
  · exact h.up
/-- what Get shows -/
def zeroP : PipeD := ⟨[], 0, 0⟩
def pV (p : PipeD) : Value := .agg #[strV p.d, intV p.r, intV p.w]
def gV (o : Option PipeD) : Value := .tuple #[pV (o.getD zeroP), .bool o.isSome]
section
variable {W : WS} {id : Bs} {p : PipeD} (hg : gP W id = some p)
include hg
theorem opn_on (b : Bool) : openE W id = 0 ∧ openP W id b = setP W id (addE p b 1) := by unfold openE openP; rw [hg]; exact ⟨rfl, rfl⟩
theorem cls_on (b : Bool) (h : endE p b ≠ 0) : closeE W id b = 0 ∧ closeP W id b = if (addE p b (-1)).r = 0 ∧ (addE p b (-1)).w = 0 then putS W (kP id) [] else setP W id (addE p b (-1)) := by
  unfold closeE closeP; rw [hg]; dsimp only; rw [if_neg h, if_neg h]; exact ⟨rfl, rfl⟩
end
end Go.Proofs.YtgnhfhhmipcgcaaGreatDoor
