/- disk: with its keep; plain facts -/
import Derived.Test.YtleaahajkncnpaaDoorDg
namespace Go.Proofs.YtleaahajkncnpaaDoor
open Go.RowKit M
set_option linter.unusedVariables false
theorem crashD_keep (D : DS) (k : List Int) : (crashD D k).keep = D.keep := by unfold crashD; split <;> rfl
theorem lateD_keep (D : DS) : (lateD D).keep = D.keep := by unfold lateD; split; rw [crashD_keep, endsD_keep]; exact endsD_keep D
theorem SyncD_keep (D : DS) (f : Int) : (SyncD D f).keep = D.keep := by unfold SyncD; split; exact lateD_keep D; split <;> exact lateD_keep D
theorem TruncD_keep (D : DS) (f s : Int) : (TruncD D f s).keep = D.keep := by unfold TruncD; split <;> exact lateD_keep D
theorem WriteD_keep (D : DS) (f a : Int) (s : Bytes) : (WriteD D f a s).keep = D.keep := by simp only [WriteD]; split; rw [crashD_keep, writeD_keep, endsD_keep]; rw [writeD_keep, endsD_keep]
def startD (D : DS) : DS := { D with down := false }
def dT (p : Nat) (D : DS) : Th := exT fun kp : Value => starL [pureT (D.keep.length ≤ 1000), diskT p kp D, ownT kp D.keep.length 1 (intsV D.keep)]
theorem dT_open {w : World} {p : Nat} {D : DS} {As : List Th} (h : Sat w (dT p D :: As)) : ∃ kp, D.keep.length ≤ 1000 ∧ Sat w (diskT p kp D :: ownT kp D.keep.length 1 (intsV D.keep) :: As) := by
  obtain ⟨kp, h⟩ := h.ex
  exact ⟨kp, h.flat.pure_elim⟩
theorem dT_shut {w : World} {p : Nat} {D : DS} {As : List Th} (kp : Value) (hl : D.keep.length ≤ 1000) (h : Sat w (diskT p kp D :: ownT kp D.keep.length 1 (intsV D.keep) :: As)) : Sat w (dT p D :: As) :=
  Sat.ex_intro kp (Sat.fold (As := [pureT (D.keep.length ≤ 1000), diskT p kp D, ownT kp D.keep.length 1 (intsV D.keep)]) (Sat.pure_intro hl h))
theorem dT_new {w : World} {p : Nat} {F : Th} (h : Sat w [diskT p (.slice none 0 0) newD, F]) : Sat w [dT p newD, F] := by
  have h3 := h.new (Only.refl [] w) (A := ownT (.slice none 0 0) 0 1 []) (F' := fun k => k ∈ ([] : List Nat)) ⟨[], rfl, Own.nil w 1⟩ (by simp)
  exact dT_shut (.slice none 0 0) (by simp [newD]) (h3.reorder [1, 0, 2] rfl)
theorem keep_ent {kp : Value} {D : DS} {F : Th} (h : D.keep.length ≤ 1000) : Ent (starL [ownT kp D.keep.length 1 (intsV D.keep), F]) (RdI kp D.keep) := Ent.starL (A := ownT kp D.keep.length 1 (intsV D.keep)) (ent_own_RdI (by omega)) 0 rfl
/-- the methods, of a disk with its keep -/
theorem dT_same {w : World} {p : Nat} {kp : Value} {D D' : DS} {F : Th} (hl : D.keep.length ≤ 1000) (hk : D'.keep = D.keep) (h : Sat w [diskT p kp D', starL [ownT kp D.keep.length 1 (intsV D.keep), F]]) : Sat w [dT p D', F] :=
  dT_shut kp (by rw [hk]; exact hl) (by have := h.join rfl; rw [hk]; exact this)
theorem size_sp' {w : World} {p : Nat} {kp : Value} {D : DS} {F : Th} (hS : Sat w [diskT p kp D, F]) (f : Int) : Calls Tryd.prog 30 #[ptrV p 0, intV f] w (Ret fun v w' => v = intV (D.F f).1.length ∧ Sat w' [diskT p kp D, F]) := (size_sp hS f).mono fun _ _ h => h.mono fun v w' ⟨h1, h2⟩ => ⟨h1, h2 ▸ hS⟩
theorem read_sp' {w : World} {p : Nat} {kp : Value} {D : DS} {F : Th} (hS : Sat w [diskT p kp D, F]) (f a n : Int) : Calls Tryd.prog 31 #[ptrV p 0, intV f, intV a, intV n] w (Ret fun v w' => v = .tuple #[strV (ReadS D f a n), intV (ReadE D f a n)] ∧ Sat w' [diskT p kp D, F]) := (read_sp hS f a n).mono fun _ _ h => h.mono fun v w' ⟨h1, h2⟩ => ⟨h1, h2 ▸ hS⟩
theorem readT {w : World} {p : Nat} {D : DS} {F : Th} (hS : Sat w [dT p D, F]) (f a n : Int) : Calls Tryd.prog 31 #[ptrV p 0, intV f, intV a, intV n] w (Ret fun v w' => v = .tuple #[strV (ReadS D f a n), intV (ReadE D f a n)] ∧ Sat w' [dT p D, F]) := by
  obtain ⟨kp, hl, hS⟩ := dT_open hS
  have hC := hS.split [0] [true, false, false] rfl; dsimp only [selF, pickA, nthA, List.cons_append, List.nil_append] at hC
  exact (read_sp' hC f a n).mono fun e w' h => h.mono fun v w' ⟨h1, h2⟩ => ⟨h1, dT_same hl (rfl) h2⟩
theorem sizeT {w : World} {p : Nat} {D : DS} {F : Th} (hS : Sat w [dT p D, F]) (f : Int) : Calls Tryd.prog 30 #[ptrV p 0, intV f] w (Ret fun v w' => v = intV (D.F f).1.length ∧ Sat w' [dT p D, F]) := by
  obtain ⟨kp, hl, hS⟩ := dT_open hS
  have hC := hS.split [0] [true, false, false] rfl; dsimp only [selF, pickA, nthA, List.cons_append, List.nil_append] at hC
  exact (size_sp' hC f).mono fun e w' h => h.mono fun v w' ⟨h1, h2⟩ => ⟨h1, dT_same hl (rfl) h2⟩
theorem syncT {w : World} {p : Nat} {D : DS} {F : Th} (hS : Sat w [dT p D, F]) (f : Int) : Calls Tryd.prog 41 #[ptrV p 0, intV f] w (Ret fun v w' => v = intV (SyncE D f) ∧ Sat w' [dT p (SyncD D f), F]) := by
  obtain ⟨kp, hl, hS⟩ := dT_open hS
  have hC := hS.split [0] [true, false, false] rfl; dsimp only [selF, pickA, nthA, List.cons_append, List.nil_append] at hC
  exact (Sync_sp hC (keep_ent hl) f).mono fun e w' h => h.mono fun v w' ⟨h1, h2⟩ => ⟨h1, dT_same hl (SyncD_keep _ _) h2⟩
theorem writeT {w : World} {p : Nat} {D : DS} {F : Th} (hS : Sat w [dT p D, F]) (f a : Int) (s : Bytes) : Calls Tryd.prog 11 #[ptrV p 0, intV f, intV a, strV s] w (Ret fun v w' => v = intV (WriteE D f a s) ∧ Sat w' [dT p (WriteD D f a s), F]) := by
  obtain ⟨kp, hl, hS⟩ := dT_open hS
  have hC := hS.split [0] [true, false, false] rfl; dsimp only [selF, pickA, nthA, List.cons_append, List.nil_append] at hC
  exact (Write_sp hC (keep_ent hl) f a s).mono fun e w' h => h.mono fun v w' ⟨h1, h2⟩ => ⟨h1, dT_same hl (WriteD_keep _ _ _ _) h2⟩
theorem loseT {w : World} {p : Nat} {D : DS} {F : Th} (hS : Sat w [dT p D, F]) (n : Int) (hn : n ≤ 9223372036854775807) : Calls Tryd.prog 19 #[ptrV p 0, intV n] w (Ret fun v w' => v = .tuple #[] ∧ Sat w' [dT p { D with lost := max n 0 }, F]) := by
  obtain ⟨kp, hl, hS⟩ := dT_open hS
  have hC := hS.split [0] [true, false, false] rfl; dsimp only [selF, pickA, nthA, List.cons_append, List.nil_append] at hC
  exact (lose_sp hC n hn).mono fun e w' h => h.mono fun v w' ⟨h1, h2⟩ => ⟨h1, dT_same hl (rfl) h2⟩
theorem startT {w : World} {p : Nat} {D : DS} {F : Th} (hS : Sat w [dT p D, F])  : Calls Tryd.prog 23 #[ptrV p 0] w (Ret fun v w' => v = .tuple #[] ∧ Sat w' [dT p (startD D), F]) := by
  obtain ⟨kp, hl, hS⟩ := dT_open hS
  have hC := hS.split [0] [true, false, false] rfl; dsimp only [selF, pickA, nthA, List.cons_append, List.nil_append] at hC
  exact (start_sp hC).mono fun e w' h => h.mono fun v w' ⟨h1, h2⟩ => ⟨h1, dT_same hl (rfl) h2⟩
theorem crashT {w : World} {p : Nat} {D : DS} {F : Th} (hS : Sat w [dT p D, F]) {kv : Value} {ks : List Int} (hK : Ent F (RdI kv ks)) : Calls Tryd.prog 22 #[ptrV p 0, kv] w (Ret fun v w' => v = .tuple #[] ∧ Sat w' [dT p (crashD D ks), F]) := by
  obtain ⟨kp, hl, hS⟩ := dT_open hS
  have hC := hS.split [0] [true, false, false] rfl; dsimp only [selF, pickA, nthA, List.cons_append, List.nil_append] at hC
  exact (crash_sp hC (hK.starL 1 rfl)).mono fun e w' h => h.mono fun v w' ⟨h1, h2⟩ => ⟨h1, dT_same hl (crashD_keep _ _) h2⟩
def armD (D : DS) (n : Int) (ks : List Int) : DS := { D with armed := max n 0, keep := ks }
theorem armT {w : World} {p : Nat} {D : DS} {F : Th} (hS : Sat w [dT p D, F]) (n : Int) (hn : n ≤ 9223372036854775807) {kv : Value} {ks : List Int} (hK : Ent F (RdI kv ks)) (hl : ks.length ≤ 1000) : Calls Tryd.prog 21 #[ptrV p 0, intV n, kv] w (Ret fun v w' => v = .tuple #[] ∧ Sat w' [dT p (armD D n ks), F]) := by
  obtain ⟨kp, _, hS⟩ := dT_open hS
  have hC := hS.split [0] [true, false, false] rfl; dsimp only [selF, pickA, nthA, List.cons_append, List.nil_append] at hC
  refine (arm_sp hC n hn (hK.starL 1 rfl) (by omega)).mono fun e w' h => h.mono fun v w' ⟨kv', h1, h2⟩ => ⟨h1, ?_⟩
  have h4 := h2.join rfl
  dsimp only [List.dropLast, List.cons_append, List.nil_append] at h4
  exact dT_shut kv' (by show ks.length ≤ 1000; omega) (h4.drop 2 rfl)
theorem dT_inv {w : World} {As : List Th} {p : Nat} {D : DS} (hS : Sat w As) (i : Nat) (hi : As[i]? = some (dT p D)) : DInv D := by
  obtain ⟨kp, _, h⟩ := dT_open (hS.pull i hi)
  exact diskT_inv h 0 rfl
/-! what the model of a disk does: plain facts -/
theorem endsD_F (D : DS) : (endsD D).F = D.F := by unfold endsD; split <;> rfl
theorem endsD_Q (D : DS) : (endsD D).Q = D.Q := by unfold endsD; split <;> rfl
theorem endsD_down (D : DS) : (endsD D).down = D.down := by unfold endsD; split <;> rfl
theorem crash_down {D : DS} {k : List Int} (h : D.down = true) : crashD D k = D := by rw [crashD, if_pos h]
theorem crash_isDown (D : DS) (k : List Int) : (crashD D k).down = true := by
  unfold crashD; split
  · assumption
  · rfl
/-- file f is durable as s, and nothing of it is pending -/
def Held (f : Int) (s : Bytes) (D : DS) : Prop := D.F f = (s, s) ∧ ∀ p ∈ D.Q, p.1 ≠ f
theorem setF_ne {F : Int → Bytes × Bytes} {f k : Int} {x : Bytes × Bytes} (h : k ≠ f) : setF F f x k = F k := by simp [setF, h]
theorem survive_ne {F : Int → Bytes × Bytes} {p : Int × Int} {k : Int} (h : p.1 ≠ k) : survive F p k = F k := by
  unfold survive; split
  · rfl
  · exact setF_ne (Ne.symm h)
theorem survives_ne {keep : List Int} {k : Int} : ∀ (Q : List (Int × Int)) (i : Nat) (F : Int → Bytes × Bytes), (∀ p ∈ Q, p.1 ≠ k) → survives keep i Q F k = F k
  | [], _, _, _ => rfl
  | p :: Q, i, F, h => by
    simp only [survives]
    rw [survives_ne Q (i + 1) _ (fun q hq => h q (by simp [hq]))]
    split
    · exact survive_ne (h p (by simp))
    · rfl
theorem Held.crash {f : Int} {s : Bytes} {D : DS} (h : Held f s D) (k : List Int) : Held f s (crashD D k) := by
  unfold crashD; split
  · exact h
  · refine ⟨?_, by simp⟩
    simp only [survives_ne D.Q 0 D.F h.2, h.1]
theorem Held.ends {f : Int} {s : Bytes} {D : DS} (h : Held f s D) : Held f s (endsD D) := ⟨by rw [endsD_F]; exact h.1, by rw [endsD_Q]; exact h.2⟩
theorem Held.late {f : Int} {s : Bytes} {D : DS} (h : Held f s D) : Held f s (lateD D) := by
  unfold lateD; split
  · exact h.ends.crash _
  · exact h.ends
theorem Held.settle {f g : Int} {s t : Bytes} {D : DS} (h : Held f s D) (hne : g ≠ f) : Held f s (settleD D g t) :=
  ⟨by show setF D.F g (t, t) f = _; rw [setF_ne (Ne.symm hne)]; exact h.1, fun p hp => h.2 p (List.mem_filter.1 hp).1⟩
theorem pend_mem {g : Int} : ∀ (k : Nat) (n : Int) (Q : List (Int × Int)) (p : Int × Int), p ∈ pend g k n Q → p ∈ Q ∨ p.1 = g
  | 0, _, _, _, h => .inl h
  | k + 1, n, Q, p, h => by
    rcases pend_mem k (n + 1) _ p h with h1 | h1
    · split at h1
      · exact .inl h1
      · rcases List.mem_append.1 h1 with h2 | h2
        · exact .inl h2
        · simp at h2; exact .inr (by rw [h2])
    · exact .inr h1
theorem Held.write {f g a : Int} {s t : Bytes} {D : DS} (h : Held f s D) (hne : g ≠ f) : Held f s (writeD D g a t) := by
  unfold writeD; split
  · unfold addD; split
    · exact h
    · exact ⟨by show setF _ _ _ f = _; rw [setF_ne (Ne.symm hne)]; exact h.1, fun p hp => by rcases pend_mem _ _ _ p hp with q | q; exact h.2 p q; rw [q]; exact hne⟩
  · exact h
theorem take_big {s : Bytes} (h : s.length ≤ 16777216) : (s.drop (Int.toNat 0)).take (Int.toNat 16777216) = s := by
  rw [show Int.toNat 0 = 0 from rfl, show Int.toNat 16777216 = 16777216 from rfl, List.drop_zero, List.take_of_length_le h]
theorem read_all {D : DS} {f : Int} (h : mayE D f = 0) (hl : (D.F f).1.length ≤ 16777216) : ReadE D f 0 16777216 = 0 ∧ ReadS D f 0 16777216 = (D.F f).1 := by
  have e : ReadE D f 0 16777216 = 0 := by rw [ReadE, if_neg (by simp [h]), if_neg (by omega)]
  exact ⟨e, by rw [ReadS, if_pos e, take_big hl]⟩
theorem late_up {D : DS} {f : Int} (h : mayE (lateD D) f = 0) : endsB D = false ∧ mayE D f = 0 ∧ lateD D = endsD D := by
  have hb : endsB D = false := by
    cases hb : endsB D with
    | false => rfl
    | true =>
      rw [lateD_yes hb, mayE, if_pos (crash_isDown _ _)] at h; cases h
  rw [lateD_no hb] at h
  refine ⟨hb, ?_, lateD_no hb⟩
  simpa [mayE, endsD_down] using h
theorem synced {D : DS} {f : Int} (h : SyncE D f = 0) : mayE D f = 0 ∧ SyncD D f = settleD (endsD D) f (D.F f).1 := by
  unfold SyncE at h
  split at h
  · rename_i hm; exact absurd h hm
  · rename_i hm
    have hm := Decidable.not_not.1 hm
    split at h
    · cases h
    · rename_i hl
      obtain ⟨_, h2, h3⟩ := late_up hm
      refine ⟨h2, ?_⟩
      rw [SyncD, if_neg (by simp [hm]), if_neg hl, h3, endsD_F]
theorem synced_held {D : DS} {f : Int} (h : SyncE D f = 0) : Held f (D.F f).1 (SyncD D f) ∧ mayE (SyncD D f) f = 0 ∧ ((SyncD D f).F f).1 = (D.F f).1 := by
  obtain ⟨h1, h2⟩ := synced h
  rw [h2]
  refine ⟨⟨by simp [settleD, setF], fun p hp => by have := (List.mem_filter.1 hp).2; simpa using this⟩, ?_, by simp [settleD, setF]⟩
  simpa [mayE, settleD, endsD_down] using h1
theorem may_start {D : DS} {f : Int} (h : 0 ≤ f ∧ f < 16) : mayE (startD D) f = 0 := by
  have h1 : (startD D).down = false := rfl
  simp [mayE, h1]; omega
end Go.Proofs.YtleaahajkncnpaaDoor
