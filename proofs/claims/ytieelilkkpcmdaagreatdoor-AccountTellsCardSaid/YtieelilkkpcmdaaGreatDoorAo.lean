/- reference 30; laws of account: AccountTells -/
import Derived.Test.YtieelilkkpcmdaaGreatDoorAl
import Derived.Test.YtieelilkkpcmdaaGreatDoorRw2
import Derived.Test.YtieelilkkpcmdaaGreatDoorRx1
import Derived.Test.YtieelilkkpcmdaaGreatDoorWg
import Derived.Test.YtieelilkkpcmdaaGreatDoorDrs
namespace Go.Proofs.YtieelilkkpcmdaaGreatDoor
open Go.RowKit M
set_option linter.unusedVariables false
theorem rdl_at {α : Type} {C : RowC α} {b off n cap i j : Nat} {l : List α} {a : α} {u : Value} {w : World} (h : RdL C (.slice (some ⟨b, off, none⟩) n cap) l w) (ha : l[i]? = some a) (hu : (C.enc a)[j]? = some u) : w.cell? ⟨b, off + i * C.size + j, none⟩ = some u := by
  obtain ⟨_, _, he, hc⟩ := h.get ha
  cases he
  exact hc j u hu
structure AccR (W : WS) (Z : List (Bs × Bs)) (i : Nat) : Prop where
  cells : CellsR Z W.cells
  one : ∀ k, k ≠ [122] → W.cells k = []
  short : (W.cells [122]).length ≤ 1000
  len : Z.length ≤ i
theorem AccR.empty : AccR emptyW [] 0 := ⟨CellsR.empty, fun _ _ => rfl, by simp [emptyW], by simp⟩
theorem AccR.put {W : WS} {Z : List (Bs × Bs)} {i : Nat} (h : AccR W Z i) {v : Bs} (hv : v.length ≤ 1000) : AccR (putS W [122] v) (putZ Z [122] v) (i + 1) := by
  refine ⟨h.cells.put _ _, fun k hk => ?_, by simp [putS, updC]; exact hv, Nat.le_trans (putZ_len _ _ _) (by have := h.len; omega)⟩
  simp only [putS, updC]; rw [if_neg hk]; exact h.one k hk
theorem AccR.up {W : WS} {Z : List (Bs × Bs)} {i : Nat} (h : AccR W Z i) : AccR W Z (i + 1) := ⟨h.cells, h.one, h.short, by have := h.len; omega⟩
theorem AccR.z {W : WS} {Z : List (Bs × Bs)} {i : Nat} (h : AccR W Z i) : (W.cells [122]).length ≤ 1000000 := by have := h.short; omega
theorem AccR.keys {W : WS} {Z : List (Bs × Bs)} {i : Nat} (h : AccR W Z i) : KeysIn W.cells 1000000 := by
  have hm : ∀ k, W.cells k ≠ [] → k = [122] := fun k hc => Decidable.byContradiction fun e => hc (h.one k e)
  exact ⟨⟨[[122]], by simp, fun k hc => by rw [hm k hc]; simp⟩, fun k hc => by rw [hm k hc]; simp⟩
/-- what a charge makes of the reference's cells -/
def chZ (W : WS) (Z : List (Bs × Bs)) (n : Int) : List (Bs × Bs) := if n < 0 then Z else if 1024 - uA W < n then Z else putZ Z [122] (encA (uA W + n))
def reZ (W : WS) (Z : List (Bs × Bs)) (n : Int) : List (Bs × Bs) := if 1 ≤ n then putZ Z [122] (encA (uA W - min n (uA W))) else Z
theorem AccR.charge {W : WS} {Z : List (Bs × Bs)} {i : Nat} (h : AccR W Z i) (n : Int) : AccR (chargeS W n) (chZ W Z n) (i + 1) := by
  have hu := uA_le W
  unfold chargeS chZ
  split
  · exact h.up
  split
  · exact h.up
  · exact h.put (by have := encA_len (n := uA W + n) (by omega); omega)
theorem AccR.release {W : WS} {Z : List (Bs × Bs)} {i : Nat} (h : AccR W Z i) (n : Int) : AccR (releaseS W n) (reZ W Z n) (i + 1) := by
  have hu := uA_le W
  unfold releaseS reZ
  split
  · exact h.put (by have := encA_len (n := uA W - min n (uA W)) (by omega); omega)
  · exact h.up
theorem fUsed_sp {w : World} {p : Nat} {Z : List (Bs × Bs)} {R : List Value} {F : Th} (hS : Sat w [refT p Z R, F]) (hZ : Z.length ≤ 999999) {W : WS} (hC : CellsR Z W.cells) (hz : (W.cells [122]).length ≤ 1000000) :
    Calls Tryz.prog 31 #[ptrV p 0] w (Ret fun v w' => v = intV (uA W) ∧ Sat w' [refT p Z R, F]) := by
  refine calls_enter Tryz.func31 rfl Tryz.ntmps31 rfl ?_
  refine wc_seq ?_
  refine wc_region ?_
  refine wl_assign rfl rfl ?_
  refine wl_nil ?_
  refine qs_seq ?_
  refine wc_seq ?_
  refine wc_region ?_
  refine wl_move rfl rfl ?_
  have hC1 := hS.split [0] [true, false] rfl; dsimp only [selF, pickA, nthA, List.cons_append, List.nil_append] at hC1
  refine wl_call cal_33 rfl (fGet_sp hC1 (by omega) hC [122]) rfl ?_
  rintro e w1 ⟨_, rfl, rfl, hS1⟩; refine ⟨_, rfl, ?_⟩
  replace hS1 := hS1.join rfl; dsimp only [List.dropLast, List.cons_append, List.nil_append] at hS1; clear hC1
  refine wl_assign rfl rfl ?_
  refine wl_nil ?_
  refine qs_seq ?_
  refine wc_seq ?_
  refine wc_region ?_
  refine wl_move rfl rfl ?_
  have hC2 := hS1.split [] [false, false] rfl; dsimp only [selF, pickA, nthA, List.cons_append, List.nil_append] at hC2
  refine wl_call cal_68 rfl (r1Open_sp hC2 (W.cells [122])) rfl ?_
  rintro e w2 ⟨_, rfl, rb, rfl, hS2⟩; refine ⟨_, rfl, ?_⟩
  replace hS2 := hS2.join rfl; dsimp only [List.dropLast, List.cons_append, List.nil_append] at hS2; clear hC2
  clear hS1
  refine wl_assign rfl rfl ?_
  refine wl_nil ?_
  refine qs_seq ?_
  refine wc_seq ?_
  refine wc_region ?_
  refine wl_move rfl rfl ?_
  have hC3 := hS2.split [0] [true, false, false] rfl; dsimp only [selF, pickA, nthA, List.cons_append, List.nil_append] at hC3
  refine wl_call cal_69 rfl (r1RInt_sp hC3 (by dsimp only; omega)) rfl ?_
  rintro e w3 ⟨_, rfl, rfl, hS3⟩; refine ⟨_, rfl, ?_⟩
  replace hS3 := hS3.join rfl; dsimp only [List.dropLast, List.cons_append, List.nil_append] at hS3; clear hC3
  clear hS2
  refine wl_assign rfl rfl ?_
  refine wl_nil ?_
  refine qs_seq ?_
  refine wc_sub (L' := [(5, _), (3, _), (2, _)]) (.cons rfl (.cons rfl (.cons rfl .nil))) ?_
  refine wc_seq ?_
  refine wc_seq ?_
  refine wc_region ?_
  refine wl_move rfl rfl ?_
  refine wl_eqlS rfl rfl rfl ?_
  refine wl_move rfl rfl ?_
  refine wl_splitD 14 rfl (fun h4 => ?_) (fun h4 => ?_)
  · skip
    refine wl_unwanted rfl rfl (decide_eq_true h4) rfl ?_
    refine wl_unwanted rfl rfl (decide_eq_true h4) rfl ?_
    refine wl_unwanted rfl rfl (decide_eq_true h4) rfl ?_
    refine wl_unwanted rfl rfl (decide_eq_true h4) rfl ?_
    refine wl_pickT rfl (decide_eq_true h4) rfl rfl ?_
    refine wl_move rfl rfl ?_
    refine wl_unwanted rfl rfl rfl rfl ?_
    refine wl_unwanted rfl rfl rfl rfl ?_
    refine wl_pickT rfl rfl rfl rfl ?_
    refine wl_move rfl rfl ?_
    refine wl_unwanted rfl rfl rfl rfl ?_
    refine wl_unwanted rfl rfl rfl rfl ?_
    refine wl_pickT rfl rfl rfl rfl ?_
    refine wl_nil ?_
    refine qs_seq ?_
    refine wc_sub (L' := [(27, _), (5, _), (2, _)]) (.cons rfl (.cons rfl (.cons rfl .nil))) ?_
    refine wc_condT rfl ?_
    refine wc_seq ?_
    refine wc_region ?_
    refine wl_assign rfl rfl ?_
    refine wl_nil ?_
    refine qs_seq ?_
    refine wc_ret ?_
    refine qs_then_ret ?_
    refine fin1 (.inr rfl) rfl rfl ?_
    exact ⟨_, rfl, by rw [uA, usedB, if_neg (by rintro ⟨q1, q2, q3, q4⟩; first | omega | (exact absurd q2 (by assumption)) | (exact absurd (by assumption) q1))], hS3.pick [1, 2] rfl⟩
  · skip
    refine wl_guard rfl rfl (decide_eq_false h4) ?_
    refine wl_move rfl rfl ?_
    refine wl_guard rfl rfl (decide_eq_false h4) ?_
    have hC5 := hS3.split [] [false, false, false] rfl; dsimp only [selF, pickA, nthA, List.cons_append, List.nil_append] at hC5
    refine wl_call cal_70 rfl (r1Int_sp hC5 _ (numV_in _ _ _)) rfl ?_
    rintro e w5 ⟨_, rfl, rfl, hS5⟩; refine ⟨_, rfl, ?_⟩
    replace hS5 := hS5.join rfl; dsimp only [List.dropLast, List.cons_append, List.nil_append] at hS5; clear hC5
    clear hS3
    refine wl_guard rfl rfl (decide_eq_false h4) ?_
    refine wl_move rfl rfl ?_
    refine wl_guard rfl rfl (decide_eq_false h4) ?_
    refine wl_neqS rfl rfl rfl ?_
    refine wl_pickF rfl (decide_eq_false h4) rfl rfl ?_
    refine wl_move rfl rfl ?_
    refine wl_splitD 20 rfl (fun h6 => ?_) (fun h6 => ?_)
    · skip
      refine wl_unwanted rfl rfl (decide_eq_true h6) rfl ?_
      refine wl_unwanted rfl rfl (decide_eq_true h6) rfl ?_
      refine wl_pickT rfl (decide_eq_true h6) rfl rfl ?_
      refine wl_move rfl rfl ?_
      refine wl_unwanted rfl rfl rfl rfl ?_
      refine wl_unwanted rfl rfl rfl rfl ?_
      refine wl_pickT rfl rfl rfl rfl ?_
      refine wl_nil ?_
      refine qs_seq ?_
      refine wc_sub (L' := [(27, _), (5, _), (2, _)]) (.cons rfl (.cons rfl (.cons rfl .nil))) ?_
      refine wc_condT rfl ?_
      refine wc_seq ?_
      refine wc_region ?_
      refine wl_assign rfl rfl ?_
      refine wl_nil ?_
      refine qs_seq ?_
      refine wc_ret ?_
      refine qs_then_ret ?_
      refine fin1 (.inr rfl) rfl rfl ?_
      exact ⟨_, rfl, by rw [uA, usedB, if_neg (by rintro ⟨q1, q2, q3, q4⟩; first | omega | (exact absurd q2 (by assumption)) | (exact absurd (by assumption) q1))], hS5.pick [1, 2] rfl⟩
    · skip
      refine wl_guard rfl rfl (decide_eq_false h6) ?_
      refine wl_move rfl rfl ?_
      refine wl_guard rfl rfl (decide_eq_false h6) ?_
      refine wl_lss rfl rfl rfl ?_
      refine wl_pickF rfl (decide_eq_false h6) rfl rfl ?_
      refine wl_move rfl rfl ?_
      refine wl_splitD 24 rfl (fun h7 => ?_) (fun h7 => ?_)
      · skip
        refine wl_unwanted rfl rfl (decide_eq_true h7) rfl ?_
        refine wl_unwanted rfl rfl (decide_eq_true h7) rfl ?_
        refine wl_pickT rfl (decide_eq_true h7) rfl rfl ?_
        refine wl_nil ?_
        refine qs_seq ?_
        refine wc_sub (L' := [(27, _), (5, _), (2, _)]) (.cons rfl (.cons rfl (.cons rfl .nil))) ?_
        refine wc_condT rfl ?_
        refine wc_seq ?_
        refine wc_region ?_
        refine wl_assign rfl rfl ?_
        refine wl_nil ?_
        refine qs_seq ?_
        refine wc_ret ?_
        refine qs_then_ret ?_
        refine fin1 (.inr rfl) rfl rfl ?_
        exact ⟨_, rfl, by rw [uA, usedB, if_neg (by rintro ⟨q1, q2, q3, q4⟩; first | omega | (exact absurd q2 (by assumption)) | (exact absurd (by assumption) q1))], hS5.pick [1, 2] rfl⟩
      · skip
        refine wl_guard rfl rfl (decide_eq_false h7) ?_
        refine wl_move rfl rfl ?_
        refine wl_guard rfl rfl (decide_eq_false h7) ?_
        refine wl_gtr rfl rfl rfl ?_
        refine wl_pickF rfl (decide_eq_false h7) rfl rfl ?_
        refine wl_nil ?_
        refine qs_seq ?_
        refine wc_sub (L' := [(27, _), (5, _), (2, _)]) (.cons rfl (.cons rfl (.cons rfl .nil))) ?_
        refine wc_condD rfl (fun h8 => ?_) (fun h8 => ?_)
        · skip
          refine wc_seq ?_
          refine wc_region ?_
          refine wl_assign rfl rfl ?_
          refine wl_nil ?_
          refine qs_seq ?_
          refine wc_ret ?_
          refine qs_then_ret ?_
          refine fin1 (.inr rfl) rfl rfl ?_
          exact ⟨_, rfl, by rw [uA, usedB, if_neg (by rintro ⟨q1, q2, q3, q4⟩; first | omega | (exact absurd q2 (by assumption)) | (exact absurd (by assumption) q1))], hS5.pick [1, 2] rfl⟩
        · skip
          refine wc_skip ?_
          refine qs_seq ?_
          refine wc_seq ?_
          refine wc_region ?_
          refine wl_move rfl rfl ?_
          refine wl_assign rfl rfl ?_
          refine wl_nil ?_
          refine qs_seq ?_
          refine wc_ret ?_
          refine fin1 (.inr rfl) rfl rfl ?_
          exact ⟨_, rfl, by rw [uA, usedB, if_pos ⟨by assumption, Decidable.not_not.1 (by assumption), by omega, by omega⟩], hS5.pick [1, 2] rfl⟩

theorem fSet_sp {w : World} {p : Nat} {Z : List (Bs × Bs)} {R : List Value} {F : Th} (hS : Sat w [refT p Z R, F]) (hZ : Z.length ≤ 999999) (n : Int) (hn : 0 ≤ n ∧ n ≤ 1024) :
    Calls Tryz.prog 64 #[ptrV p 0, intV n] w (Ret fun v w' => v = .tuple #[] ∧ Sat w' [refT p (putZ Z [122] (encA n)) R, F]) := by
  refine calls_enter Tryz.func64 rfl Tryz.ntmps64 rfl ?_
  refine wc_seq ?_
  refine wc_region ?_
  refine wl_move rfl rfl ?_
  refine wl_eql rfl rfl rfl ?_
  refine wl_nil ?_
  refine qs_seq ?_
  refine wc_condD rfl (fun h1 => ?_) (fun h1 => ?_)
  · skip
    refine wc_region ?_
    refine wl_move rfl rfl ?_
    have hC2 := hS.split [0] [true, false] rfl; dsimp only [selF, pickA, nthA, List.cons_append, List.nil_append] at hC2
    refine wl_call cal_29 rfl (fPut_sp hC2 (by omega) [122] []) rfl ?_
    rintro e w2 ⟨_, rfl, rfl, hS2⟩; refine ⟨_, rfl, ?_⟩
    replace hS2 := hS2.join rfl; dsimp only [List.dropLast, List.cons_append, List.nil_append] at hS2; clear hC2
    refine wl_nil ?_
    refine fin0 (.inl rfl) rfl ?_
    exact ⟨_, rfl, rfl, by rw [show encA n = [] by unfold encA; rw [if_neg (by omega)]]; exact hS2⟩
  · skip
    refine wc_region ?_
    refine wl_move rfl rfl ?_
    refine wl_move rfl rfl ?_
    have hC3 := hS.split [] [false, false] rfl; dsimp only [selF, pickA, nthA, List.cons_append, List.nil_append] at hC3
    refine wl_call cal_70 rfl (r1Int_sp hC3 n (by unfold inI; omega)) rfl ?_
    rintro e w3 ⟨_, rfl, rfl, hS3⟩; refine ⟨_, rfl, ?_⟩
    replace hS3 := hS3.join rfl; dsimp only [List.dropLast, List.cons_append, List.nil_append] at hS3; clear hC3
    have hC4 := hS3.split [0] [true, false] rfl; dsimp only [selF, pickA, nthA, List.cons_append, List.nil_append] at hC4
    refine wl_call cal_29 rfl (fPut_sp hC4 (by omega) [122] (Lib.itoa n ++ [59])) rfl ?_
    rintro e w4 ⟨_, rfl, rfl, hS4⟩; refine ⟨_, rfl, ?_⟩
    replace hS4 := hS4.join rfl; dsimp only [List.dropLast, List.cons_append, List.nil_append] at hS4; clear hC4
    clear hS3
    refine wl_nil ?_
    refine fin0 (.inl rfl) rfl ?_
    exact ⟨_, rfl, rfl, by rw [show encA n = Lib.itoa n ++ [59] by unfold encA; rw [if_pos (by omega)]]; exact hS4⟩

theorem fCharge_sp {w : World} {p : Nat} {Z : List (Bs × Bs)} {R : List Value} {F : Th} (hS : Sat w [refT p Z R, F]) (hZ : Z.length ≤ 999999) {W : WS} (hC : CellsR Z W.cells) (hz : (W.cells [122]).length ≤ 1000000) (n : Int) :
    Calls Tryz.prog 25 #[ptrV p 0, intV n] w (Ret fun v w' => v = intV (chargeV W n) ∧ Sat w' [refT p (chZ W Z n) R, F]) := by
  refine calls_enter Tryz.func25 rfl Tryz.ntmps25 rfl ?_
  refine wc_seq ?_
  refine wc_region ?_
  refine wl_assign rfl rfl ?_
  refine wl_nil ?_
  refine qs_seq ?_
  refine wc_seq ?_
  refine wc_region ?_
  refine wl_move rfl rfl ?_
  have hC1 := hS.split [0] [true, false] rfl; dsimp only [selF, pickA, nthA, List.cons_append, List.nil_append] at hC1
  refine wl_call cal_31 rfl (fUsed_sp hC1 hZ hC hz) rfl ?_
  rintro e w1 ⟨_, rfl, rfl, hS1⟩; refine ⟨_, rfl, ?_⟩
  replace hS1 := hS1.join rfl; dsimp only [List.dropLast, List.cons_append, List.nil_append] at hS1; clear hC1
  have hu := uA_le W
  refine wl_assign rfl rfl ?_
  refine wl_nil ?_
  refine qs_seq ?_
  refine wc_seq ?_
  refine wc_seq ?_
  refine wc_region ?_
  refine wl_move rfl rfl ?_
  refine wl_lss rfl rfl rfl ?_
  refine wl_nil ?_
  refine qs_seq ?_
  refine wc_condD rfl (fun h2 => ?_) (fun h2 => ?_)
  · skip
    refine wc_seq ?_
    refine wc_region ?_
    refine wl_assign rfl rfl ?_
    refine wl_nil ?_
    refine qs_seq ?_
    refine wc_ret ?_
    refine qs_then_ret ?_
    refine fin1 (.inr rfl) rfl rfl ?_
    exact ⟨_, rfl, by unfold chargeV; rw [if_pos (by omega)], by unfold chZ; rw [if_pos (by omega)]; exact hS1⟩
  · skip
    refine wc_skip ?_
    refine qs_seq ?_
    refine wc_seq ?_
    refine wc_seq ?_
    refine wc_region ?_
    refine wl_move rfl rfl ?_
    refine wl_move rfl rfl ?_
    refine wl_sub' rfl rfl (by omega) (by omega) rfl ?_
    refine wl_gtr rfl rfl rfl ?_
    refine wl_nil ?_
    refine qs_seq ?_
    refine wc_sub (L' := [(13, _), (5, _), (4, _), (0, _), (1, _)]) (.cons rfl (.cons rfl (.cons rfl (.cons rfl (.cons rfl .nil))))) ?_
    refine wc_condD rfl (fun h3 => ?_) (fun h3 => ?_)
    · skip
      refine wc_seq ?_
      refine wc_region ?_
      refine wl_assign rfl rfl ?_
      refine wl_nil ?_
      refine qs_seq ?_
      refine wc_ret ?_
      refine qs_then_ret ?_
      refine fin1 (.inr rfl) rfl rfl ?_
      exact ⟨_, rfl, by unfold chargeV; rw [if_neg (by omega), if_pos (by omega)], by unfold chZ; rw [if_neg (by omega), if_pos (by omega)]; exact hS1⟩
    · skip
      refine wc_skip ?_
      refine qs_seq ?_
      refine wc_seq ?_
      refine wc_region ?_
      refine wl_move rfl rfl ?_
      refine wl_move rfl rfl ?_
      refine wl_move rfl rfl ?_
      refine wl_add rfl rfl (by omega) (by omega) rfl ?_
      have hC4 := hS1.split [0] [true, false] rfl; dsimp only [selF, pickA, nthA, List.cons_append, List.nil_append] at hC4
      refine wl_call cal_64 rfl (fSet_sp hC4 hZ (uA W + n) (by omega)) rfl ?_
      rintro e w4 ⟨_, rfl, rfl, hS4⟩; refine ⟨_, rfl, ?_⟩
      replace hS4 := hS4.join rfl; dsimp only [List.dropLast, List.cons_append, List.nil_append] at hS4; clear hC4
      clear hS1
      refine wl_nil ?_
      refine qs_seq ?_
      refine wc_seq ?_
      refine wc_region ?_
      refine wl_assign rfl rfl ?_
      refine wl_nil ?_
      refine qs_seq ?_
      refine wc_ret ?_
      refine fin1 (.inr rfl) rfl rfl ?_
      exact ⟨_, rfl, by unfold chargeV; rw [if_neg (by omega), if_neg (by omega)], by unfold chZ; rw [if_neg (by omega), if_neg (by omega)]; exact hS4⟩

theorem fRelease_sp {w : World} {p : Nat} {Z : List (Bs × Bs)} {R : List Value} {F : Th} (hS : Sat w [refT p Z R, F]) (hZ : Z.length ≤ 999999) {W : WS} (hC : CellsR Z W.cells) (hz : (W.cells [122]).length ≤ 1000000) (n : Int) :
    Calls Tryz.prog 27 #[ptrV p 0, intV n] w (Ret fun v w' => v = .tuple #[] ∧ Sat w' [refT p (reZ W Z n) R, F]) := by
  refine calls_enter Tryz.func27 rfl Tryz.ntmps27 rfl ?_
  refine wc_seq ?_
  refine wc_region ?_
  refine wl_move rfl rfl ?_
  have hC1 := hS.split [0] [true, false] rfl; dsimp only [selF, pickA, nthA, List.cons_append, List.nil_append] at hC1
  refine wl_call cal_31 rfl (fUsed_sp hC1 hZ hC hz) rfl ?_
  rintro e w1 ⟨_, rfl, rfl, hS1⟩; refine ⟨_, rfl, ?_⟩
  replace hS1 := hS1.join rfl; dsimp only [List.dropLast, List.cons_append, List.nil_append] at hS1; clear hC1
  have hu := uA_le W
  refine wl_assign rfl rfl ?_
  refine wl_nil ?_
  refine qs_seq ?_
  refine wc_seq ?_
  refine wc_region ?_
  refine wl_move rfl rfl ?_
  refine wl_geq rfl rfl rfl ?_
  refine wl_nil ?_
  refine qs_seq ?_
  refine wc_condD rfl (fun h2 => ?_) (fun h2 => ?_)
  · skip
    refine wc_region ?_
    refine wl_move rfl rfl ?_
    refine wl_move rfl rfl ?_
    refine wl_move rfl rfl ?_
    refine wl_move rfl rfl ?_
    refine wl_minI rfl rfl rfl ?_
    refine wl_sub' rfl rfl (by omega) (by omega) rfl ?_
    refine wl_maxI rfl rfl rfl ?_
    rw [show max 0 (uA W - min n (uA W)) = uA W - min n (uA W) by omega]
    have hC3 := hS1.split [0] [true, false] rfl; dsimp only [selF, pickA, nthA, List.cons_append, List.nil_append] at hC3
    refine wl_call cal_64 rfl (fSet_sp hC3 hZ (uA W - min n (uA W)) (by omega)) rfl ?_
    rintro e w3 ⟨_, rfl, rfl, hS3⟩; refine ⟨_, rfl, ?_⟩
    replace hS3 := hS3.join rfl; dsimp only [List.dropLast, List.cons_append, List.nil_append] at hS3; clear hC3
    clear hS1
    refine wl_nil ?_
    refine fin0 (.inl rfl) rfl ?_
    exact ⟨_, rfl, rfl, by unfold reZ; rw [if_pos (by omega)]; exact hS3⟩
  · skip
    refine wc_skip ?_
    refine fin0 (.inl rfl) rfl ?_
    exact ⟨_, rfl, rfl, by unfold reZ; rw [if_neg (by omega)]; exact hS1⟩

theorem withZ_len (Z : List (Bs × Bs)) (q : Bs) : (withZ Z q).length ≤ Z.length := by
  unfold withZ; exact Nat.le_trans (List.length_filter_le _ _) (by simp)
theorem fewA_get {l : List OpA} {i : Nat} {o : OpA} (h : fewA l = true) (ho : l[i]? = some o) : o.s.length ≤ 40 := by
  simp only [fewA, Bool.and_eq_true] at h
  exact of_decide_eq_true (List.all_eq_true.1 h.1 o (List.mem_of_getElem? ho))
theorem fewA_len {l : List OpA} (h : fewA l = true) : l.length ≤ 100 := by
  simp only [fewA, Bool.and_eq_true] at h
  exact of_decide_eq_true h.2
set_option maxRecDepth 100000 in
theorem atells_law {w : World} {F : Th} (hS : Sat w [F]) (hG : Ent F WireG) {lv : Value} {l : List OpA} (hL : Ent F (RdL aC lv l)) :
    Calls Tryz.prog 4 #[lv] w (Ret fun v w' => v = .bool true ∧ Sat w' [F]) := by
  obtain ⟨ao, cap, rfl, hmax⟩ := (hL.sat hS 0 rfl).shape
  refine calls_enter Tryz.func4 rfl Tryz.ntmps4 rfl ?_
  refine wc_seq ?_
  refine wc_region ?_
  refine wl_assign rfl rfl ?_
  refine wl_nil ?_
  refine qs_seq ?_
  refine wc_seq ?_
  refine wc_region ?_
  have hC1 := hS.split [] [false] rfl; dsimp only [selF, pickA, nthA, List.cons_append, List.nil_append] at hC1
  refine wl_call cal_22 rfl (asmall_sp hC1 (hG.starL 0 rfl)) rfl ?_
  rintro e w1 ⟨_, rfl, rfl, hS1⟩; refine ⟨_, rfl, ?_⟩
  replace hS1 := hS1.join rfl; dsimp only [List.dropLast, List.cons_append, List.nil_append] at hS1; clear hC1
  refine wl_assign rfl rfl ?_
  refine wl_nil ?_
  refine qs_seq ?_
  refine wc_seq ?_
  refine wc_region ?_
  have hC2 := hS1.split [] [false] rfl; dsimp only [selF, pickA, nthA, List.cons_append, List.nil_append] at hC2
  refine wl_call cal_7 rfl (new_sp hC2) rfl ?_
  rintro e w2 ⟨_, rfl, p, rfl, hS2⟩; refine ⟨_, rfl, ?_⟩
  replace hS2 := hS2.join rfl; dsimp only [List.dropLast, List.cons_append, List.nil_append] at hS2; clear hC2
  clear hS1
  refine wl_assign rfl rfl ?_
  refine wl_nil ?_
  refine qs_seq ?_
  refine wc_seq ?_
  refine wc_region ?_
  refine wl_buildS rfl pl_31_ asz_31 zr_31 rfl rfl ?_
  refine wl_box hS2 rfl rfl rfl ?_
  intro fb wf hSf
  have hSg : Sat wf [refT fb [] [.slice none 0 0, .slice none 0 0, .slice none 0 0, .slice none 0 0, intV 0], worldT p emptyW, F] := refT_shut (((hSf.row_nil stC).row_nil stC).reorder [2, 0, 1, 3, 4] rfl)
  clear hS2
  refine wl_assign rfl rfl ?_
  refine wl_nil ?_
  refine qs_seq ?_
  refine wc_seq ?_
  refine wc_seq ?_
  refine wc_region ?_
  refine wl_move rfl rfl ?_
  have hC3 := hSg.split [] [false, false, false] rfl; dsimp only [selF, pickA, nthA, List.cons_append, List.nil_append] at hC3
  refine wl_call cal_23 rfl (afew_sp hC3 (hL.starL 2 rfl)) rfl ?_
  rintro e w3 ⟨_, rfl, rfl, hS3⟩; refine ⟨_, rfl, ?_⟩
  replace hS3 := hS3.join rfl; dsimp only [List.dropLast, List.cons_append, List.nil_append] at hS3; clear hC3
  clear hSg
  refine wl_not rfl rfl ?_
  refine wl_move rfl rfl ?_
  refine wl_split 14 rfl (fun h4 => ?_) (fun h4 => ?_)
  · skip
    refine wl_unwanted rfl rfl h4 rfl ?_
    refine wl_unwanted rfl rfl h4 rfl ?_
    refine wl_pickT rfl h4 rfl rfl ?_
    refine wl_nil ?_
    refine qs_seq ?_
    refine wc_sub (L' := [(17, _), (5, _), (4, _), (3, _), (2, _), (0, _)]) (.cons rfl (.cons rfl (.cons rfl (.cons rfl (.cons rfl (.cons rfl .nil)))))) ?_
    refine wc_condT rfl ?_
    refine wc_seq ?_
    refine wc_region ?_
    refine wl_move rfl rfl ?_
    refine wl_move rfl rfl ?_
    refine wl_guard rfl rfl rfl ?_
    refine wl_move rfl rfl ?_
    refine wl_guard rfl rfl rfl ?_
    refine wl_neqNil Tryz.underlying25 rfl rfl rfl ?_
    refine wl_pickT rfl rfl rfl rfl ?_
    refine wl_assign rfl rfl ?_
    refine wl_nil ?_
    refine qs_seq ?_
    refine wc_sub (L' := [(2, _), (5, _), (4, _), (3, _), (0, _)]) (.cons rfl (.cons rfl (.cons rfl (.cons rfl (.cons rfl .nil))))) ?_
    refine wc_ret ?_
    refine qs_then_ret ?_
    refine fin1 (.inr rfl) rfl rfl ?_
    exact ⟨_, rfl, by first | rfl | simp, hS3.pick [2] rfl⟩
  · skip
    have hfewA : fewA l = true := by simpa using h4
    have hll := fewA_len hfewA
    refine wl_guard rfl rfl h4 ?_
    refine wl_move rfl rfl ?_
    refine wl_guard rfl rfl h4 ?_
    refine wl_eqlNil Tryz.underlying25 rfl rfl rfl ?_
    refine wl_pickF rfl h4 rfl rfl ?_
    refine wl_nil ?_
    refine qs_seq ?_
    refine wc_sub (L' := [(17, _), (5, _), (4, _), (3, _), (2, _), (0, _)]) (.cons rfl (.cons rfl (.cons rfl (.cons rfl (.cons rfl (.cons rfl .nil)))))) ?_
    refine wc_condF rfl ?_
    refine wc_skip ?_
    refine qs_seq ?_
    refine wc_seq ?_
    refine wc_seq ?_
    refine wc_region ?_
    refine wl_assign rfl rfl ?_
    refine wl_nil ?_
    refine qs_seq ?_
    refine wc_block ?_
    refine wc_loop (fun K0 E0 W0 => ∃ (i : Nat) (W : WS) (Z : List (Bs × Bs)), K0 = l.length - i ∧ E0 = [(0, .slice ao l.length cap), (3, .bool true), (4, ptrV p 0), (5, ptrV fb 0), (6, intV (i : Int))] ∧ Sat W0 [worldT p W, refT fb Z [.slice none 0 0, .slice none 0 0, .slice none 0 0, .slice none 0 0, intV 0], F] ∧ (i ≤ l.length) ∧ (AccR W Z i)) (L0 := [(0, _), (3, _), (4, _), (5, _), (6, _)]) (l.length - 0) (.cons rfl (.cons rfl (.cons rfl (.cons rfl (.cons rfl .nil))))) ⟨0, _, _, rfl, rfl, hS3.reorder [1, 0, 2] rfl, by omega, AccR.empty⟩ ?_
    rintro _ _ w5 ⟨i, W, Z, rfl, rfl, hS5, hi, hA⟩
    have hZl := hA.len
    refine wc_seq ?_
    refine wc_seq ?_
    refine wc_region ?_
    refine wl_move rfl rfl ?_
    refine wl_move rfl rfl ?_
    refine wl_lenL Tryz.underlying46 rfl rfl ?_
    refine wl_lss rfl rfl rfl ?_
    refine wl_nil ?_
    refine qs_seq ?_
    refine wc_condD rfl (fun h6 => ?_) (fun h6 => ?_)
    · skip
      obtain ⟨o, ho⟩ : ∃ o, l[i]? = some o := ⟨_, List.getElem?_eq_getElem (by omega)⟩
      obtain ⟨b, off, rfl, hc⟩ := (hL.sat hS5 2 rfl).get ho
      have hos := fewA_get hfewA ho
      refine wc_skip ?_
      refine qs_seq ?_
      refine wc_seq ?_
      refine wc_block ?_
      refine wc_mid (fun E0 W0 => ∃ (W2 : WS) (Z2 : List (Bs × Bs)), E0 = [(0, .slice (some ⟨b, off, none⟩) l.length cap), (3, .bool true), (4, ptrV p 0), (5, ptrV fb 0), (6, intV (i : Int))] ∧ Sat W0 [worldT p W2, refT fb Z2 [.slice none 0 0, .slice none 0 0, .slice none 0 0, .slice none 0 0, intV 0], F] ∧ (AccR W2 Z2 (i + 1))) ?_ ?_
      · skip
        refine wc_seq ?_
        refine wc_region ?_
        refine wl_move rfl rfl ?_
        refine wl_move rfl rfl ?_
        refine wl_indexAddr i rfl rfl (by first | rfl | omega) (by omega) es_46 rfl ?_
        refine wl_fieldAddr rfl fo_49_0 rfl ?_
        refine wl_load rfl ag_3 (rdl_at (C := aC) (j := 0) (hL.sat hS5 2 rfl) ho rfl) rfl ?_
        refine wl_mask 2 rfl rfl rfl rfl (q := 4) rfl rfl ?_
        refine wl_nil ?_
        refine qs_seq ?_
        refine wc_sub (L' := [(34, _), (0, _), (3, _), (4, _), (5, _), (6, _)]) (.cons rfl (.cons rfl (.cons rfl (.cons rfl (.cons rfl (.cons rfl .nil)))))) ?_
        refine wc_block ?_
        refine wc_seq ?_
        refine wc_seq ?_
        refine wc_region ?_
        refine wl_eql rfl rfl rfl ?_
        refine wl_assign rfl rfl ?_
        refine wl_nil ?_
        refine qs_seq ?_
        refine wc_condD rfl (fun h8 => ?_) (fun h8 => ?_)
        · skip
          refine wc_skip ?_
          refine qs_seq ?_
          refine wc_condKT rfl (decide_eq_true h8) ?_
          refine wc_seq ?_
          have hS9 := hS5.drew
          refine wc_draw [0, 1, 2, 3, 4, 5, 6, 8, 9, 10, 11, 12, 13, 7, 14, 15] [7, 14] mix (by kernel_rfl) ?_
          refine vc_p rfl rfl rfl (fun _ => (ev_move rfl)) ?_
          refine vc_p rfl rfl rfl (fun _ => (ev_makeIface nif_25 rfl)) ?_
          refine vc_p rfl rfl rfl (fun _ => (ev_move rfl)) ?_
          refine vc_p rfl rfl rfl (fun _ => (ev_move rfl)) ?_
          refine vc_p rfl rfl rfl (fun _ => (ev_indexAddr i rfl rfl (by first | rfl | omega) (by omega) es_46)) ?_
          refine vc_p rfl rfl rfl (fun _ => (ev_fieldAddr rfl fo_49_1)) ?_
          refine vc_q rfl rfl rfl (ev_load rfl ag_3 (rdl_at (C := aC) (j := 1) (hL.sat hS9 2 rfl) ho rfl)) ?_
          refine vc_p rfl rfl rfl (fun _ => (ev_move rfl)) ?_
          refine vc_p rfl rfl rfl (fun _ => (ev_move rfl)) ?_
          refine vc_p rfl rfl rfl (fun _ => (ev_move rfl)) ?_
          refine vc_p rfl rfl rfl (fun _ => (ev_indexAddr i rfl rfl (by first | rfl | omega) (by omega) es_46)) ?_
          refine vc_p rfl rfl rfl (fun _ => (ev_fieldAddr rfl fo_49_1)) ?_
          refine vc_q rfl rfl rfl (ev_load rfl ag_3 (rdl_at (C := aC) (j := 1) (hL.sat hS9 2 rfl) ho rfl)) ?_
          refine vc_s rfl rfl rfl rfl rfl rfl ?_
          have hC10 := hS9.split [0] [true, false, false] rfl; dsimp only [selF, pickA, nthA, List.cons_append, List.nil_append] at hC10
          refine wl_call cal_24 rfl (charge_sp hC10 (hG.starL 1 rfl) hA.z o.n) rfl ?_
          rintro e w10 ⟨_, rfl, rfl, hS10⟩; refine ⟨_, rfl, ?_⟩
          replace hS10 := hS10.join rfl; dsimp only [List.dropLast, List.cons_append, List.nil_append] at hS10; clear hC10
          clear hS9
          refine vc_e (.cons (.inl ⟨rfl, (ev_load rfl ag_3 (rdl_at (C := aC) (j := 1) (hL.sat hS10 2 rfl) ho rfl))⟩) (.skip (by kernel_rfl) .nil)) ?_
          refine vc_s rfl rfl rfl rfl rfl rfl ?_
          have hC11 := hS10.split [1] [false, true, false] rfl; dsimp only [selF, pickA, nthA, List.cons_append, List.nil_append] at hC11
          refine wl_call cal_25 rfl (fCharge_sp hC11 (by omega) hA.cells hA.z o.n) rfl ?_
          rintro e w11 ⟨_, rfl, rfl, hS11⟩; refine ⟨_, rfl, ?_⟩
          replace hS11 := hS11.join rfl; dsimp only [List.dropLast, List.cons_append, List.nil_append] at hS11; clear hC11
          clear hS10
          refine vc_e (.skip (by kernel_rfl) (.skip (by kernel_rfl) .nil)) ?_
          refine vc_p rfl rfl rfl (fun _ => (ev_neq rfl rfl)) ?_
          refine VC.nil ?_
          refine qs_seq ?_
          refine wc_sub (L' := [(53, _), (0, _), (3, _), (4, _), (5, _), (6, _)]) (.cons rfl (.cons rfl (.cons rfl (.cons rfl (.cons rfl (.cons rfl .nil)))))) ?_
          refine wc_condD rfl (fun h12 => ?_) (fun h12 => ?_)
          · skip
            exact absurd rfl h12
          · skip
            refine wc_skip ?_
            refine qs_block_normal ?_
            exact qs_mid (.cons rfl (.cons rfl (.cons rfl (.cons rfl (.cons rfl .nil))))) ⟨_, _, rfl, hS11.pick [1, 0, 2] rfl, hA.charge o.n⟩
        · skip
          refine wc_region ?_
          refine wl_eql rfl rfl rfl ?_
          refine wl_assign rfl rfl ?_
          refine wl_nil ?_
          refine qs_seq ?_
          refine wc_condD rfl (fun h13 => ?_) (fun h13 => ?_)
          · skip
            refine wc_seq ?_
            have hS14 := hS5.drew
            refine wc_draw [0, 1, 2, 3, 4, 5, 6, 8, 9, 10, 11, 12, 13, 7, 14, 15] [7, 14] mix (by kernel_rfl) ?_
            refine vc_p rfl rfl rfl (fun _ => (ev_move rfl)) ?_
            refine vc_p rfl rfl rfl (fun _ => (ev_makeIface nif_25 rfl)) ?_
            refine vc_p rfl rfl rfl (fun _ => (ev_move rfl)) ?_
            refine vc_p rfl rfl rfl (fun _ => (ev_move rfl)) ?_
            refine vc_p rfl rfl rfl (fun _ => (ev_indexAddr i rfl rfl (by first | rfl | omega) (by omega) es_46)) ?_
            refine vc_p rfl rfl rfl (fun _ => (ev_fieldAddr rfl fo_49_1)) ?_
            refine vc_q rfl rfl rfl (ev_load rfl ag_3 (rdl_at (C := aC) (j := 1) (hL.sat hS14 2 rfl) ho rfl)) ?_
            refine vc_p rfl rfl rfl (fun _ => (ev_move rfl)) ?_
            refine vc_p rfl rfl rfl (fun _ => (ev_move rfl)) ?_
            refine vc_p rfl rfl rfl (fun _ => (ev_move rfl)) ?_
            refine vc_p rfl rfl rfl (fun _ => (ev_indexAddr i rfl rfl (by first | rfl | omega) (by omega) es_46)) ?_
            refine vc_p rfl rfl rfl (fun _ => (ev_fieldAddr rfl fo_49_1)) ?_
            refine vc_q rfl rfl rfl (ev_load rfl ag_3 (rdl_at (C := aC) (j := 1) (hL.sat hS14 2 rfl) ho rfl)) ?_
            refine vc_s rfl rfl rfl rfl rfl rfl ?_
            have hC15 := hS14.split [0] [true, false, false] rfl; dsimp only [selF, pickA, nthA, List.cons_append, List.nil_append] at hC15
            refine wl_call cal_24 rfl (charge_sp hC15 (hG.starL 1 rfl) hA.z o.n) rfl ?_
            rintro e w15 ⟨_, rfl, rfl, hS15⟩; refine ⟨_, rfl, ?_⟩
            replace hS15 := hS15.join rfl; dsimp only [List.dropLast, List.cons_append, List.nil_append] at hS15; clear hC15
            clear hS14
            refine vc_e (.cons (.inl ⟨rfl, (ev_load rfl ag_3 (rdl_at (C := aC) (j := 1) (hL.sat hS15 2 rfl) ho rfl))⟩) (.skip (by kernel_rfl) .nil)) ?_
            refine vc_s rfl rfl rfl rfl rfl rfl ?_
            have hC16 := hS15.split [1] [false, true, false] rfl; dsimp only [selF, pickA, nthA, List.cons_append, List.nil_append] at hC16
            refine wl_call cal_25 rfl (fCharge_sp hC16 (by omega) hA.cells hA.z o.n) rfl ?_
            rintro e w16 ⟨_, rfl, rfl, hS16⟩; refine ⟨_, rfl, ?_⟩
            replace hS16 := hS16.join rfl; dsimp only [List.dropLast, List.cons_append, List.nil_append] at hS16; clear hC16
            clear hS15
            refine vc_e (.skip (by kernel_rfl) (.skip (by kernel_rfl) .nil)) ?_
            refine vc_p rfl rfl rfl (fun _ => (ev_neq rfl rfl)) ?_
            refine VC.nil ?_
            refine qs_seq ?_
            refine wc_sub (L' := [(53, _), (0, _), (3, _), (4, _), (5, _), (6, _)]) (.cons rfl (.cons rfl (.cons rfl (.cons rfl (.cons rfl (.cons rfl .nil)))))) ?_
            refine wc_condD rfl (fun h17 => ?_) (fun h17 => ?_)
            · skip
              exact absurd rfl h17
            · skip
              refine wc_skip ?_
              refine qs_block_normal ?_
              exact qs_mid (.cons rfl (.cons rfl (.cons rfl (.cons rfl (.cons rfl .nil))))) ⟨_, _, rfl, hS16.pick [1, 0, 2] rfl, hA.charge o.n⟩
          · skip
            refine wc_seq ?_
            refine wc_region ?_
            refine wl_eql rfl rfl rfl ?_
            refine wl_assign rfl rfl ?_
            refine wl_nil ?_
            refine qs_seq ?_
            refine wc_sub (L' := [(54, _), (34, _), (0, _), (3, _), (4, _), (5, _), (6, _)]) (.cons rfl (.cons rfl (.cons rfl (.cons rfl (.cons rfl (.cons rfl (.cons rfl .nil))))))) ?_
            refine wc_condD rfl (fun h18 => ?_) (fun h18 => ?_)
            · skip
              refine wc_seq ?_
              refine wc_region ?_
              refine wl_move rfl rfl ?_
              refine wl_makeIface nif_25 rfl rfl ?_
              refine wl_move rfl rfl ?_
              refine wl_move rfl rfl ?_
              refine wl_indexAddr i rfl rfl (by first | rfl | omega) (by omega) es_46 rfl ?_
              refine wl_fieldAddr rfl fo_49_1 rfl ?_
              refine wl_load rfl ag_3 (rdl_at (C := aC) (j := 1) (hL.sat hS5 2 rfl) ho rfl) rfl ?_
              have hC19 := hS5.split [0] [true, false, false] rfl; dsimp only [selF, pickA, nthA, List.cons_append, List.nil_append] at hC19
              refine wl_call cal_26 rfl (release_sp hC19 (hG.starL 1 rfl) hA.z o.n) rfl ?_
              rintro e w19 ⟨_, rfl, rfl, hS19⟩; refine ⟨_, rfl, ?_⟩
              replace hS19 := hS19.join rfl; dsimp only [List.dropLast, List.cons_append, List.nil_append] at hS19; clear hC19
              clear hS5
              refine wl_nil ?_
              refine qs_seq ?_
              refine wc_sub (L' := [(0, _), (3, _), (4, _), (5, _), (6, _)]) (.cons rfl (.cons rfl (.cons rfl (.cons rfl (.cons rfl .nil))))) ?_
              refine wc_region ?_
              refine wl_move rfl rfl ?_
              refine wl_move rfl rfl ?_
              refine wl_move rfl rfl ?_
              refine wl_indexAddr i rfl rfl (by first | rfl | omega) (by omega) es_46 rfl ?_
              refine wl_fieldAddr rfl fo_49_1 rfl ?_
              refine wl_load rfl ag_3 (rdl_at (C := aC) (j := 1) (hL.sat hS19 2 rfl) ho rfl) rfl ?_
              have hC20 := hS19.split [1] [false, true, false] rfl; dsimp only [selF, pickA, nthA, List.cons_append, List.nil_append] at hC20
              refine wl_call cal_27 rfl (fRelease_sp hC20 (by omega) hA.cells hA.z o.n) rfl ?_
              rintro e w20 ⟨_, rfl, rfl, hS20⟩; refine ⟨_, rfl, ?_⟩
              replace hS20 := hS20.join rfl; dsimp only [List.dropLast, List.cons_append, List.nil_append] at hS20; clear hC20
              clear hS19
              refine wl_nil ?_
              refine qs_block_normal ?_
              exact qs_mid (.cons rfl (.cons rfl (.cons rfl (.cons rfl (.cons rfl .nil))))) ⟨_, _, rfl, hS20.pick [1, 0, 2] rfl, hA.release o.n⟩
            · skip
              refine wc_seq ?_
              refine wc_region ?_
              refine wl_eql rfl rfl rfl ?_
              refine wl_assign rfl rfl ?_
              refine wl_nil ?_
              refine qs_seq ?_
              refine wc_condD rfl (fun h21 => ?_) (fun h21 => ?_)
              · skip
                refine wc_seq ?_
                refine wc_region ?_
                refine wl_move rfl rfl ?_
                refine wl_move rfl rfl ?_
                refine wl_move rfl rfl ?_
                refine wl_indexAddr i rfl rfl (by first | rfl | omega) (by omega) es_46 rfl ?_
                refine wl_fieldAddr rfl fo_49_2 rfl ?_
                refine wl_load rfl ag_9 (rdl_at (C := aC) (j := 2) (hL.sat hS5 2 rfl) ho rfl) rfl ?_
                have hC22 := hS5.split [0] [true, false, false] rfl; dsimp only [selF, pickA, nthA, List.cons_append, List.nil_append] at hC22
                refine wl_call cal_28 rfl (put_sp hC22 [122] o.s (by simp) (by omega)) rfl ?_
                rintro e w22 ⟨_, rfl, rfl, hS22⟩; refine ⟨_, rfl, ?_⟩
                replace hS22 := hS22.join rfl; dsimp only [List.dropLast, List.cons_append, List.nil_append] at hS22; clear hC22
                clear hS5
                refine wl_nil ?_
                refine qs_seq ?_
                refine wc_sub (L' := [(0, _), (3, _), (4, _), (5, _), (6, _)]) (.cons rfl (.cons rfl (.cons rfl (.cons rfl (.cons rfl .nil))))) ?_
                refine wc_region ?_
                refine wl_move rfl rfl ?_
                refine wl_move rfl rfl ?_
                refine wl_move rfl rfl ?_
                refine wl_indexAddr i rfl rfl (by first | rfl | omega) (by omega) es_46 rfl ?_
                refine wl_fieldAddr rfl fo_49_2 rfl ?_
                refine wl_load rfl ag_9 (rdl_at (C := aC) (j := 2) (hL.sat hS22 2 rfl) ho rfl) rfl ?_
                have hC23 := hS22.split [1] [false, true, false] rfl; dsimp only [selF, pickA, nthA, List.cons_append, List.nil_append] at hC23
                refine wl_call cal_29 rfl (fPut_sp hC23 (by omega) [122] o.s) rfl ?_
                rintro e w23 ⟨_, rfl, rfl, hS23⟩; refine ⟨_, rfl, ?_⟩
                replace hS23 := hS23.join rfl; dsimp only [List.dropLast, List.cons_append, List.nil_append] at hS23; clear hC23
                clear hS22
                refine wl_nil ?_
                refine qs_block_normal ?_
                exact qs_mid (.cons rfl (.cons rfl (.cons rfl (.cons rfl (.cons rfl .nil))))) ⟨_, _, rfl, hS23.pick [1, 0, 2] rfl, hA.put (by omega)⟩
              · skip
                refine wc_skip ?_
                refine qs_block_normal ?_
                exact qs_mid (.cons rfl (.cons rfl (.cons rfl (.cons rfl (.cons rfl .nil))))) ⟨_, _, rfl, hS5.pick [0, 1, 2] rfl, hA.up⟩
      rintro _ w7 ⟨W2, Z2, rfl, hS7, hA2⟩
      have hZ2 := hA2.len
      refine wc_seq ?_
      refine wc_region ?_
      refine wl_move rfl rfl ?_
      refine wl_makeIface nif_25 rfl rfl ?_
      have hC24 := hS7.split [0] [true, false, false] rfl; dsimp only [selF, pickA, nthA, List.cons_append, List.nil_append] at hC24
      refine wl_call cal_30 rfl (used_sp hC24 (hG.starL 1 rfl) hA2.z) rfl ?_
      rintro e w24 ⟨_, rfl, rfl, hS24⟩; refine ⟨_, rfl, ?_⟩
      replace hS24 := hS24.join rfl; dsimp only [List.dropLast, List.cons_append, List.nil_append] at hS24; clear hC24
      clear hS7
      refine wl_move rfl rfl ?_
      have hC25 := hS24.split [1] [false, true, false] rfl; dsimp only [selF, pickA, nthA, List.cons_append, List.nil_append] at hC25
      refine wl_call cal_31 rfl (fUsed_sp hC25 (by omega) hA2.cells hA2.z) rfl ?_
      rintro e w25 ⟨_, rfl, rfl, hS25⟩; refine ⟨_, rfl, ?_⟩
      replace hS25 := hS25.join rfl; dsimp only [List.dropLast, List.cons_append, List.nil_append] at hS25; clear hC25
      clear hS24
      refine wl_neq rfl rfl rfl ?_
      refine wl_move rfl rfl ?_
      refine wl_splitD 93 rfl (fun h26 => ?_) (fun h26 => ?_)
      · skip
        exact absurd rfl h26
      · skip
        refine wl_guard rfl rfl (decide_eq_false h26) ?_
        refine wl_move rfl rfl ?_
        refine wl_guard rfl rfl (decide_eq_false h26) ?_
        have hC27 := hS25.split [1] [false, true, false] rfl; dsimp only [selF, pickA, nthA, List.cons_append, List.nil_append] at hC27
        refine wl_call cal_32 rfl (get_sp hC27 [122]) rfl ?_
        rintro e w27 ⟨_, rfl, rfl, hS27⟩; refine ⟨_, rfl, ?_⟩
        replace hS27 := hS27.join rfl; dsimp only [List.dropLast, List.cons_append, List.nil_append] at hS27; clear hC27
        clear hS25
        refine wl_guard rfl rfl (decide_eq_false h26) ?_
        refine wl_move rfl rfl ?_
        refine wl_guard rfl rfl (decide_eq_false h26) ?_
        have hC28 := hS27.split [1] [false, true, false] rfl; dsimp only [selF, pickA, nthA, List.cons_append, List.nil_append] at hC28
        refine wl_call cal_33 rfl (fGet_sp hC28 (by omega) hA2.cells [122]) rfl ?_
        rintro e w28 ⟨_, rfl, rfl, hS28⟩; refine ⟨_, rfl, ?_⟩
        replace hS28 := hS28.join rfl; dsimp only [List.dropLast, List.cons_append, List.nil_append] at hS28; clear hC28
        clear hS27
        refine wl_guard rfl rfl (decide_eq_false h26) ?_
        refine wl_neqS rfl rfl rfl ?_
        refine wl_pickF rfl (decide_eq_false h26) rfl rfl ?_
        refine wl_nil ?_
        refine qs_seq ?_
        refine wc_sub (L' := [(99, _), (0, _), (3, _), (4, _), (5, _), (6, _)]) (.cons rfl (.cons rfl (.cons rfl (.cons rfl (.cons rfl (.cons rfl .nil)))))) ?_
        refine wc_condD rfl (fun h29 => ?_) (fun h29 => ?_)
        · skip
          exact absurd rfl h29
        · skip
          refine wc_skip ?_
          refine qs_block_normal ?_
          refine qs_seq ?_
          refine wc_region ?_
          refine wl_move rfl rfl ?_
          refine wl_add rfl rfl (by omega) (by omega) rfl ?_
          refine wl_assign rfl rfl ?_
          refine wl_nil ?_
          exact qs_round (L1 := [(0, _), (3, _), (4, _), (5, _), (6, intV ((i + 1 : Nat) : Int))]) (.cons rfl (.cons rfl (.cons rfl (.cons rfl (.cons rfl .nil))))) (k1 := l.length - (i + 1)) (by omega) ⟨i + 1, _, _, rfl, rfl, hS28.pick [1, 0, 2] rfl, by omega, hA2⟩
    · skip
      refine wc_exit ?_
      refine qs_then_exit ?_
      refine qs_then_exit ?_
      refine qs_block_exit ?_
      refine qs_seq ?_
      refine wc_seq ?_
      refine wc_region ?_
      refine wl_move rfl rfl ?_
      refine wl_move rfl rfl ?_
      refine wl_guard rfl rfl rfl ?_
      refine wl_move rfl rfl ?_
      refine wl_guard rfl rfl rfl ?_
      have hC30 := hS5.split [0] [true, false, false] rfl; dsimp only [selF, pickA, nthA, List.cons_append, List.nil_append] at hC30
      refine wl_call cal_20 rfl (keys_sp hC30 [] hA.keys) rfl ?_
      rintro e w30 ⟨_, rfl, lk, hlk, hS30⟩; refine ⟨_, rfl, ?_⟩
      replace hS30 := hS30.join rfl; dsimp only [List.dropLast, List.cons_append, List.nil_append] at hS30; clear hC30
      clear hS5
      obtain rfl := withZ_keys hA.cells hlk
      refine wl_guard rfl rfl rfl ?_
      refine wl_move rfl rfl ?_
      refine wl_guard rfl rfl rfl ?_
      have hC31 := hS30.split [2] [false, false, true, false] rfl; dsimp only [selF, pickA, nthA, List.cons_append, List.nil_append] at hC31
      refine wl_call cal_21 rfl (fWith_sp hC31 (by omega) []) rfl ?_
      rintro e w31 ⟨_, rfl, hS31⟩; refine ⟨_, rfl, ?_⟩
      replace hS31 := hS31.join rfl; dsimp only [List.dropLast, List.cons_append, List.nil_append] at hS31; clear hC31
      clear hS30
      refine wl_guard rfl rfl rfl ?_
      have hC32 := hS31.split [] [false, false, false, false, false] rfl; dsimp only [selF, pickA, nthA, List.cons_append, List.nil_append] at hC32
      refine wl_call cal_18 rfl (same_sp hC32 (Ent.starL (ent_row (C := stC) (l := withZ Z []) (by have := withZ_len Z []; omega)) 2 rfl) (Ent.starL (ent_row (C := stC) (l := withZ Z []) (by have := withZ_len Z []; omega)) 0 rfl)) rfl ?_
      rintro e w32 ⟨_, rfl, rfl, hS32⟩; refine ⟨_, rfl, ?_⟩
      replace hS32 := hS32.join rfl; dsimp only [List.dropLast, List.cons_append, List.nil_append] at hS32; clear hC32
      clear hS31
      refine wl_pickT rfl rfl rfl rfl ?_
      refine wl_assign rfl rfl ?_
      refine wl_nil ?_
      refine qs_seq ?_
      refine wc_sub (L' := [(2, _)]) (.cons rfl .nil) ?_
      refine wc_ret ?_
      refine fin1 (.inr rfl) rfl rfl ?_
      exact ⟨_, rfl, by first | rfl | simp, hS32.pick [4] rfl⟩

end Go.Proofs.YtieelilkkpcmdaaGreatDoor
