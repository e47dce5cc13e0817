/- reference 28's Read, in plain data -/
import Derived.Test.YtcbdclhoekokpaaGreatDoorPc8
import Derived.Test.YtcbdclhoekokpaaGreatDoorPd2
namespace Go.Proofs.YtcbdclhoekokpaaGreatDoor
open Go.RowKit M
set_option linter.unusedVariables false
theorem txtV_len (s : St) : (txtV s).length ≤ s.1.length := by
  have h := numR_len 58 0 s
  unfold txtV
  split
  · simp
  · split
    · simp
    · rw [List.length_take]; omega
theorem cut_good {e : UInt8} {z : St} (h : (cutV e z).2 = false) : z.2 = false := by
  obtain ⟨l, b⟩ := z
  cases l with
  | nil => cases h
  | cons c l =>
    simp only [cutV] at h
    split at h
    · exact h
    · cases h
def isFl (j : Nat) : Prop := 2 ≤ j ∧ j < 34 ∧ j % 2 = 1
instance (j : Nat) : Decidable (isFl j) := by unfold isFl; infer_instance
def normT (T : List Int) : List Int := (List.range 38).map fun j => if isFl j then bitN (decide (T.getD j 0 = 1)) else T.getD j 0
theorem normT_len (T : List Int) : (normT T).length = 38 := by unfold normT; simp
theorem normT_get (T : List Int) {j : Nat} (h : j < 38) : (normT T)[j]? = some (if isFl j then bitN (decide (T.getD j 0 = 1)) else T.getD j 0) := by
  unfold normT; rw [List.getElem?_map, List.getElem?_range h]; rfl
theorem bit_dec (b : Bool) : decide (bitN b = 1) = b := by cases b <;> rfl
theorem pF_norm (H T : List Int) (av fv : Value) (c s : Bs) : pF H (normT T) av fv c s = pF H T av fv c s := by
  unfold pF
  have e : (List.range 38).map (fun j => tc j ((normT T).getD j 0)) = (List.range 38).map (fun j => tc j (T.getD j 0)) := by
    refine List.map_congr_left fun j hj => ?_
    have hj := List.mem_range.1 hj
    rw [List.getD_eq_getElem?_getD, normT_get T hj, Option.getD_some]
    unfold tc
    by_cases q : 2 ≤ j ∧ j < 34 ∧ j % 2 = 1
    · rw [if_pos q, if_pos q, if_pos (show isFl j from q), bit_dec]
    · rw [if_neg q, if_neg q, if_neg (show ¬ isFl j from q)]
  rw [e]
theorem normT_id {T : List Int} (hl : T.length = 38) (hf : flagsOk T = true) : normT T = T := by
  apply List.ext_getElem?
  intro j
  by_cases hj : j < 38
  · rw [normT_get T hj]
    have e : T[j]? = some (T.getD j 0) := by rw [List.getD_eq_getElem?_getD, List.getElem?_eq_getElem (by omega)]; rfl
    rw [e]
    by_cases q : isFl j
    · rw [if_pos q]
      obtain ⟨q1, q2, q3⟩ := q
      unfold flagsOk at hf
      rw [List.all_eq_true] at hf
      have h6 := hf ((j - 2) / 2) (List.mem_range.2 (by omega))
      rw [show 3 + 2 * ((j - 2) / 2) = j by omega, e, Option.getD_some] at h6
      congr 1
      simp only [fl01, Bool.or_eq_true, decide_eq_true_eq] at h6
      rcases h6 with h | h <;> rw [h] <;> rfl
    · rw [if_neg q]
  · rw [List.getElem?_eq_none (by rw [normT_len]; omega), List.getElem?_eq_none (by omega)]
theorem normT_fl (T : List Int) : flagsOk (normT T) = true := by
  unfold flagsOk
  rw [List.all_eq_true]
  intro i hi
  have hi := List.mem_range.1 hi
  rw [normT_get T (by omega), Option.getD_some, if_pos ⟨by omega, by omega, by omega⟩]
  unfold fl01 bitN; split <;> rfl
def recQ (s : Bs) (k m : Nat) : ProcD := ⟨intsV 19 (s, false), arsV k (r2 s), txOut m (r3 s k), txtV (r5 s k m), normT (intsV 38 (r6 s k m)), txtV (r7 s k m)⟩
theorem iV_in (z : St) : inI (iV z) := numV_in _ _ _
theorem intsV_in (n : Nat) (z : St) : ∀ x ∈ intsV n z, inI x := fun x hx => by
  unfold intsV at hx
  obtain ⟨j, _, rfl⟩ := List.mem_map.1 hx
  exact iV_in _
theorem recQ_wf {s : Bs} {k m : Nat} (he : Ends s k m) (hs : s.length ≤ 1000000) : WFR (recQ s k m) where
  hl := intsV_len _ _
  hi := intsV_in _ _
  tl := normT_len _
  ti := fun n hn => by
    unfold recQ normT at hn
    obtain ⟨j, hj, rfl⟩ := List.mem_map.1 hn
    split
    · unfold bitN inI; split <;> omega
    · exact getD_in (intsV_in _ _) j
  fl := normT_fl _
  ar := fun y hy => by
    unfold recQ arsV at hy
    obtain ⟨j, _, rfl⟩ := List.mem_map.1 hy
    refine ⟨iV_in _, iV_in _, iV_in _, ?_⟩
    have h1 : (r2 s).1.length ≤ s.length := Nat.le_trans (numR_len _ _ _) (intsR_len 19 _)
    have h2 := arSt_len j (r2 s)
    have h3 := txtV_len (iR (iR (arSt j (r2 s))))
    have h4 := iR_len (iR (arSt j (r2 s)))
    have h5 := iR_len (arSt j (r2 s))
    show (txtV (iR (iR (arSt j (r2 s))))).length ≤ 1000000
    omega
  al := by
    show (arsV k (r2 s)).length ≤ 1000000
    rw [arsV_len]
    have h1 : (r2 s).1.length ≤ s.length := Nat.le_trans (numR_len _ _ _) (intsR_len 19 _)
    have := ars_few k he.a.2.1
    omega
  fd := fun x hx => by
    unfold recQ txOut at hx
    dsimp only at hx
    split at hx
    · cases hx
    · unfold txsV at hx
      obtain ⟨j, _, rfl⟩ := List.mem_map.1 hx
      have h1 : (r2 s).1.length ≤ s.length := Nat.le_trans (numR_len _ _ _) (intsR_len 19 _)
      have h2 := arSt_len k (r2 s)
      have h3 := numR_len 91 0 (r3 s k)
      have h4 := txSt_len j (numR 91 0 (r3 s k))
      have h5 := txtV_len (txSt j (numR 91 0 (r3 s k)))
      have h6 : (r3 s k).1.length ≤ (r2 s).1.length := h2
      omega
  fdl := by
    have h1 : (r2 s).1.length ≤ s.length := Nat.le_trans (numR_len _ _ _) (intsR_len 19 _)
    have h2 : (r3 s k).1.length ≤ (r2 s).1.length := arSt_len k (r2 s)
    have h3 := numR_len 91 0 (r3 s k)
    have h4 := txs_few he.t.2.1
    show (txOut m (r3 s k)).length ≤ 1000000
    unfold txOut
    split
    · simp
    · rename_i q
      rw [txsV_len]
      have h0 := cut_good (by simpa using q)
      have h5 := txs_count (s := r4 s k) m fun j hj => by
        by_cases e : j = m
        · rw [e]; exact h0
        · exact he.t.2.1 j (by omega)
      have h6 : (r4 s k).1.length ≤ (r3 s k).1.length := h3
      omega
  cwd := by
    have h1 : (r2 s).1.length ≤ s.length := Nat.le_trans (numR_len _ _ _) (intsR_len 19 _)
    have h2 : (r3 s k).1.length ≤ (r2 s).1.length := arSt_len k (r2 s)
    have h3 : (r4 s k).1.length ≤ (r3 s k).1.length := numR_len _ _ _
    have h4 := txSt_len m (r4 s k)
    have h5 : (r5 s k m).1.length ≤ (txSt m (r4 s k)).1.length := cut_len _ _
    have h6 := txtV_len (r5 s k m)
    show (txtV (r5 s k m)).length ≤ 1000000
    omega
  shl := by
    have h1 : (r2 s).1.length ≤ s.length := Nat.le_trans (numR_len _ _ _) (intsR_len 19 _)
    have h2 : (r3 s k).1.length ≤ (r2 s).1.length := arSt_len k (r2 s)
    have h3 : (r4 s k).1.length ≤ (r3 s k).1.length := numR_len _ _ _
    have h4 := txSt_len m (r4 s k)
    have h5 : (r5 s k m).1.length ≤ (txSt m (r4 s k)).1.length := cut_len _ _
    have h6 : (r6 s k m).1.length ≤ (r5 s k m).1.length := txtR_len _
    have h7 : (r7 s k m).1.length ≤ (r6 s k m).1.length := intsR_len _ _
    have h8 := txtV_len (r7 s k m)
    show (txtV (r7 s k m)).length ≤ 1000000
    omega
def doneQ (s : Bs) (k m : Nat) : Bool := !(r8 s k m).2 && decide ((r8 s k m).1 = [])
theorem dec_q {s : Bs} {k m : Nat} (he : Ends s k m) (hs : s.length ≤ 1000000) : decP s = if doneQ s k m = true ∧ encR (recQ s k m) = s then some (recQ s k m) else none := by
  have hw := recQ_wf he hs
  by_cases h : doneQ s k m = true ∧ encR (recQ s k m) = s
  · rw [if_pos h]
    have := dec_enc hw (by rw [h.2]; exact hs)
    rw [h.2] at this; exact this
  · rw [if_neg h]
    cases hd : decP s with
    | none => rfl
    | some y =>
      exfalso
      obtain ⟨h1, h2⟩ := dec_out he hs
      rw [hd] at h1
      have hok : okO s k m = true := h1
      have h3 := h2 hok
      rw [hd] at h3
      rw [okO_eq] at hok
      have hok2 := h1
      unfold okO at hok2
      simp only [Option.isSome_some, Bool.and_eq_true] at hok hok2
      have e : recQ s k m = recO s k m := by
        unfold recQ recO txOut
        rw [normT_id (intsV_len _ _) hok2.1.2]
        rfl
      refine h ⟨by unfold doneQ; simp only [Bool.and_eq_true]; exact hok.1.1, ?_⟩
      rw [e, ← Option.some.inj h3]
      exact (dec_some hd).2
end Go.Proofs.YtcbdclhoekokpaaGreatDoor
