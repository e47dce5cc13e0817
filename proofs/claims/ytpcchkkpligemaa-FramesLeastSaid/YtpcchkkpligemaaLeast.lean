/- FramesLeast: for every input the law returns true, and what was there stays. -/
import Derived.Test.YtpcchkkpligemaaLf
namespace Go.Proofs.Ytpcchkkpligemaa
open Go.RowKit M

def contB : List UInt8 := [115, 111, 109, 101, 32, 99, 111, 110, 116, 101, 110, 116, 115]
def cont : List UInt8 := pad contB

/-- the memory after k frames were allocated and filled -/
def S1 (n k : Nat) : List (Bool × List UInt8) := List.replicate k (true, cont) ++ List.replicate (n - k) (false, zeros)

theorem S1_length {n k : Nat} (h : k ≤ n) : (S1 n k).length = n := by simp [S1]; omega

theorem S1_get {n k : Nat} (h : k < n) : (S1 n k)[k]? = some (false, zeros) := by
  unfold S1
  rw [List.getElem?_append_right (by simp), List.getElem?_replicate]
  simp; omega

theorem S1_free {n k : Nat} (h : k < n) : firstFree (S1 n k) = some k := by
  unfold firstFree
  rw [List.findIdx?_eq_some_iff_getElem]
  refine ⟨by rw [S1_length (by omega)]; exact h, ?_, ?_⟩
  · have := S1_get h
    rw [List.getElem?_eq_getElem (by rw [S1_length (by omega)]; exact h)] at this
    simp at this
    simp [this]
  · intro j hj
    have hjl : j < (S1 n k).length := by rw [S1_length (by omega)]; omega
    have e : (S1 n k)[j]? = some (true, cont) := by
      unfold S1
      rw [List.getElem?_append_left (by simpa using hj), List.getElem?_replicate]
      simp [hj]
    rw [List.getElem?_eq_getElem hjl] at e
    simp at e
    simp [e]

theorem S1_step {n k : Nat} (h : k < n) : fillS (allocS (S1 n k)) k contB = S1 n (k + 1) := by
  have e1 : allocS (S1 n k) = (S1 n k).set k zframe := by simp [allocS, S1_free h]
  have hh : hasB ((S1 n k).set k zframe) k = true := by
    simp [hasB, zframe, List.getElem?_set, S1_length (show k ≤ n by omega), h]
  rw [e1]
  simp only [fillS, hh, if_true, Int.toNat_natCast, List.set_set]
  unfold S1
  rw [List.set_append_right _ _ (by simp)]
  simp only [List.length_replicate, Nat.sub_self]
  obtain ⟨q, hq⟩ : ∃ q, n - k = q + 1 := ⟨n - k - 1, by omega⟩
  rw [hq, List.replicate_succ, List.set_cons_zero, List.replicate_succ', List.append_assoc]
  rw [show n - (k + 1) = q by omega]
  rfl

theorem S1_fillE {n k : Nat} (h : k < n) : fillE (allocS (S1 n k)) k = 0 := by
  have e1 : allocS (S1 n k) = (S1 n k).set k zframe := by simp [allocS, S1_free h]
  have hh : hasB ((S1 n k).set k zframe) k = true := by
    simp [hasB, zframe, List.getElem?_set, S1_length (show k ≤ n by omega), h]
  rw [e1]; simp [fillE, hh]

/-- the memory after frames were freed -/
def S2 (fr : List Bool) : List (Bool × List UInt8) := fr.map fun b => (!b, cont)

theorem S1_full (n : Nat) : S1 n n = S2 (List.replicate n false) := by simp [S1, S2]

def mark (fr : List Bool) (f : Int) : List Bool := if 0 ≤ f then fr.set f.toNat true else fr
theorem mark_length (fr : List Bool) (f : Int) : (mark fr f).length = fr.length := by unfold mark; split <;> simp

theorem S2_has (fr : List Bool) (f : Int) : hasB (S2 fr) f = (decide (0 ≤ f) && (fr[f.toNat]?.map (!·)).getD false) := by
  simp only [hasB, S2, List.getElem?_map, Option.map_map]
  rfl

theorem S2_free (fr : List Bool) (f : Int) : freeS (S2 fr) f = S2 (mark fr f) := by
  unfold freeS
  rw [S2_has]
  by_cases h0 : 0 ≤ f
  · cases hq : fr[f.toNat]? with
    | none =>
      have := List.getElem?_eq_none_iff.1 hq
      simp [mark, h0, List.set_eq_of_length_le this]
    | some b =>
      have hk := (List.getElem?_eq_some_iff.1 hq)
      cases b with
      | false => simp [mark, h0, S2, List.map_set, hq]
      | true =>
        have : fr.set f.toNat true = fr := by
          apply List.ext_getElem?
          intro j
          rw [List.getElem?_set]
          split
          · rename_i e; subst e; rw [hq]; simp [(List.getElem?_eq_some_iff.1 hq).1]
          · rfl
        simp [mark, h0, this]
  · simp [mark, h0]

/-- the memory after the frames below i were allocated again -/
def S3 (i : Nat) (fr : List Bool) : List (Bool × List UInt8) := fr.mapIdx fun j b => if j < i then (true, if b then zeros else cont) else (!b, cont)

theorem S3_zero (fr : List Bool) : S3 0 fr = S2 fr := by
  apply List.ext_getElem?
  intro j
  simp [S3, S2]

theorem S3_length (i : Nat) (fr : List Bool) : (S3 i fr).length = fr.length := by simp [S3]

theorem S3_get (i : Nat) (fr : List Bool) (j : Nat) : (S3 i fr)[j]? = fr[j]?.map fun b => if j < i then (true, if b then zeros else cont) else (!b, cont) := by simp [S3]

theorem S3_keep {i : Nat} {fr : List Bool} (h : fr[i]? = some false) : S3 (i + 1) fr = S3 i fr := by
  apply List.ext_getElem?
  intro j
  rw [S3_get, S3_get]
  by_cases hj : j = i
  · subst hj; simp [h]
  · congr 1; funext b
    by_cases h1 : j < i
    · rw [if_pos (by omega), if_pos h1]
    · rw [if_neg (by omega), if_neg h1]

theorem S3_first {i : Nat} {fr : List Bool} (h : fr[i]? = some true) : firstFree (S3 i fr) = some i := by
  have hi := (List.getElem?_eq_some_iff.1 h).1
  unfold firstFree
  rw [List.findIdx?_eq_some_iff_getElem]
  refine ⟨by rw [S3_length]; exact hi, ?_, ?_⟩
  · have := S3_get i fr i
    rw [h, List.getElem?_eq_getElem (by rw [S3_length]; exact hi)] at this
    simp at this
    simp [this]
  · intro j hj
    have := S3_get i fr j
    rw [List.getElem?_eq_getElem (by rw [S3_length]; omega), List.getElem?_eq_getElem (show j < fr.length by omega)] at this
    simp [hj] at this
    simp [this]

theorem S3_alloc {i : Nat} {fr : List Bool} (h : fr[i]? = some true) : allocS (S3 i fr) = S3 (i + 1) fr := by
  simp only [allocS, S3_first h]
  apply List.ext_getElem?
  intro j
  have hi := (List.getElem?_eq_some_iff.1 h).1
  rw [List.getElem?_set]
  by_cases hj : i = j
  · subst hj; rw [if_pos rfl, S3_get, h]; simp [S3_length, hi, zframe]
  · rw [if_neg hj, S3_get, S3_get]
    congr 1; funext b
    by_cases h1 : j < i
    · have h2 : j < i + 1 := by omega
      simp only [h1, h2, if_true]
    · have h2 : ¬ j < i + 1 := by omega
      simp only [h1, h2, if_false]

theorem S3_page {i : Nat} {fr : List Bool} (h : fr[i]? = some true) : pageB (S3 (i + 1) fr) i = zeros := by
  have := S3_get (i + 1) fr i
  rw [h] at this
  simp at this
  simp [pageB, hasB, this]

theorem S3_none {fr : List Bool} : firstFree (S3 fr.length fr) = none := by
  unfold firstFree
  rw [List.findIdx?_eq_none_iff]
  intro x hx
  obtain ⟨j, hj⟩ := List.mem_iff_getElem?.1 hx
  have := S3_get fr.length fr j
  have hjl : j < fr.length := by have := (List.getElem?_eq_some_iff.1 hj).1; rwa [S3_length] at this
  rw [hj, List.getElem?_eq_getElem hjl] at this
  simp [hjl] at this
  simp [this]

theorem S3_count {fr : List Bool} : count (S3 fr.length fr) = fr.length := by
  unfold count
  rw [List.filter_eq_self.2, S3_length]
  intro x hx
  obtain ⟨j, hj⟩ := List.mem_iff_getElem?.1 hx
  have := S3_get fr.length fr j
  have hjl : j < fr.length := by have := (List.getElem?_eq_some_iff.1 hj).1; rwa [S3_length] at this
  rw [hj, List.getElem?_eq_getElem hjl] at this
  simp [hjl] at this
  simp [this]
end Go.Proofs.Ytpcchkkpligemaa
