/- account: Used, set, Charge, Release -/
import Derived.Test.YtieelilkkpcmdaaDoorWr
namespace Go.Proofs.YtieelilkkpcmdaaDoor
open Go.RowKit M
set_option linter.unusedVariables false
theorem imeth_Get (p : Nat) : ∀ w : World, (method (Tryd.prog.types.size + Made.depth) 26 (ptrV p 0) "Get").run Tryd.prog w = .ok (13, ptrV p 0) w := by intro w; kernel_rfl
theorem imeth_Put (p : Nat) : ∀ w : World, (method (Tryd.prog.types.size + Made.depth) 26 (ptrV p 0) "Put").run Tryd.prog w = .ok (36, ptrV p 0) w := by intro w; kernel_rfl
theorem imeth_Keys (p : Nat) : ∀ w : World, (method (Tryd.prog.types.size + Made.depth) 26 (ptrV p 0) "Keys").run Tryd.prog w = .ok (23, ptrV p 0) w := by intro w; kernel_rfl
theorem numV_in (e : UInt8) (least : Int) (s : Bs × Bool) : inI (numV e least s) := by
  unfold numV
  split
  · rename_i n r h; exact (numP_some h).2.1
  · unfold inI; omega
def MINI : Int := -9223372036854775808
def usedB (s : Bs) : Int := if s ≠ [] ∧ Lib.itoa (numV 59 (-9223372036854775808) (s, false)) ++ [59] = s ∧ 1 ≤ numV 59 (-9223372036854775808) (s, false) ∧ numV 59 (-9223372036854775808) (s, false) ≤ 1024 then numV 59 (-9223372036854775808) (s, false) else 0
theorem usedB_le (s : Bs) : 0 ≤ usedB s ∧ usedB s ≤ 1024 := by unfold usedB; split <;> omega
theorem usedB_nil : usedB [] = 0 := by simp [usedB]
def encA (n : Int) : Bs := if 0 < n then Lib.itoa n ++ [59] else []
theorem usedB_enc {n : Int} (h : 0 ≤ n ∧ n ≤ 1024) : usedB (encA n) = n := by
  unfold encA
  split
  · rename_i hp
    have hn : inI n := by unfold inI; omega
    have h1 := numP_enc (e := 59) (least := -9223372036854775808) (r := []) (by decide) hn hn.1
    have h2 : numV 59 (-9223372036854775808) (Lib.itoa n ++ [59], false) = n := by simp [numV, h1]
    unfold usedB
    rw [h2, if_pos ⟨by simp, rfl, by omega, by omega⟩]
  · rw [usedB_nil]; omega
theorem encA_len {n : Int} (h : n ≤ 1024) : (encA n).length ≤ 30 := by
  unfold encA
  split
  · have := (itoa_len (n := n) (by unfold inI; omega)).1
    simp; omega
  · simp
def uA (W : WS) : Int := usedB (W.cells [122])
def setA (W : WS) (n : Int) : WS := putS W [122] (encA n)
def chargeV (W : WS) (n : Int) : Int := if n < 0 then 1 else if 1024 - uA W < n then 24 else 0
def chargeS (W : WS) (n : Int) : WS := if n < 0 then W else if 1024 - uA W < n then W else setA W (uA W + n)
def releaseS (W : WS) (n : Int) : WS := if 1 ≤ n then setA W (uA W - min n (uA W)) else W
theorem uA_le (W : WS) : 0 ≤ uA W ∧ uA W ≤ 1024 := usedB_le _
theorem used_sp {w : World} {p : Nat} {W : WS} {F : Th} (hS : Sat w [worldT p W, F]) (hG : Ent F WireG) (hz : (W.cells [122]).length ≤ 1000000) :
    Calls Tryd.prog 30 #[.iface 26 (ptrV p 0)] w (Ret fun v w' => v = intV (uA W) ∧ Sat w' [worldT p W, F]) := by
  refine calls_enter Tryd.func30 rfl Tryd.ntmps30 rfl ?_
  refine wc_seq ?_
  refine wc_region ?_
  refine wl_assign rfl rfl ?_
  refine wl_nil ?_
  refine qs_seq ?_
  refine wc_seq ?_
  refine wc_region ?_
  refine wl_move rfl rfl ?_
  have hC1 := hS.split [0] [true, false] rfl; dsimp only [selF, pickA, nthA, List.cons_append, List.nil_append] at hC1
  refine wl_invoke (vs := [strV [122]]) rfl (imeth_Get p) cal_13 rfl (get_sp hC1 [122]) rfl ?_
  rintro e w1 ⟨_, rfl, rfl, hS1⟩; refine ⟨_, rfl, ?_⟩
  replace hS1 := hS1.join rfl; dsimp only [List.dropLast, List.cons_append, List.nil_append] at hS1; clear hC1
  refine wl_assign rfl rfl ?_
  refine wl_nil ?_
  refine qs_seq ?_
  refine wc_seq ?_
  refine wc_seq ?_
  refine wc_region ?_
  refine wl_move rfl rfl ?_
  refine wl_eqlS rfl rfl rfl ?_
  refine wl_nil ?_
  refine qs_seq ?_
  refine wc_condD rfl (fun h2 => ?_) (fun h2 => ?_)
  · skip
    refine wc_seq ?_
    refine wc_region ?_
    refine wl_assign rfl rfl ?_
    refine wl_nil ?_
    refine qs_seq ?_
    refine wc_ret ?_
    refine qs_then_ret ?_
    refine fin1 (.inr rfl) rfl rfl ?_
    exact ⟨_, rfl, by rw [uA, show W.cells [122] = [] from by assumption, usedB_nil], hS1⟩
  · skip
    refine wc_skip ?_
    refine qs_seq ?_
    refine wc_seq ?_
    refine wc_region ?_
    refine wl_move rfl rfl ?_
    have hC3 := hS1.split [] [false, false] rfl; dsimp only [selF, pickA, nthA, List.cons_append, List.nil_append] at hC3
    refine wl_call cal_59 rfl (wOpen_sp hC3 (W.cells [122])) rfl ?_
    rintro e w3 ⟨_, rfl, rb, rfl, hS3⟩; refine ⟨_, rfl, ?_⟩
    replace hS3 := hS3.join rfl; dsimp only [List.dropLast, List.cons_append, List.nil_append] at hS3; clear hC3
    clear hS1
    have hC4 := hS3.split [0] [true, false, false] rfl; dsimp only [selF, pickA, nthA, List.cons_append, List.nil_append] at hC4
    refine wl_call cal_60 rfl (rInt_sp hC4 (hG.starL 1 rfl) (by dsimp only; omega)) rfl ?_
    rintro e w4 ⟨_, rfl, rfl, hS4⟩; refine ⟨_, rfl, ?_⟩
    replace hS4 := hS4.join rfl; dsimp only [List.dropLast, List.cons_append, List.nil_append] at hS4; clear hC4
    clear hS3
    refine wl_assign rfl rfl ?_
    refine wl_nil ?_
    refine qs_seq ?_
    refine wc_sub (L' := [(4, _), (3, _), (2, _)]) (.cons rfl (.cons rfl (.cons rfl .nil))) ?_
    refine wc_seq ?_
    refine wc_seq ?_
    refine wc_region ?_
    refine wl_move rfl rfl ?_
    have hC5 := hS4.split [] [false, false, false] rfl; dsimp only [selF, pickA, nthA, List.cons_append, List.nil_append] at hC5
    refine wl_call cal_61 rfl (wInt_sp hC5 (hG.starL 2 rfl) _ (numV_in _ _ _)) rfl ?_
    rintro e w5 ⟨_, rfl, rfl, hS5⟩; refine ⟨_, rfl, ?_⟩
    replace hS5 := hS5.join rfl; dsimp only [List.dropLast, List.cons_append, List.nil_append] at hS5; clear hC5
    clear hS4
    refine wl_move rfl rfl ?_
    refine wl_neqS rfl rfl rfl ?_
    refine wl_move rfl rfl ?_
    refine wl_splitD 16 rfl (fun h6 => ?_) (fun h6 => ?_)
    · skip
      refine wl_unwanted rfl rfl (decide_eq_true h6) rfl ?_
      refine wl_unwanted rfl rfl (decide_eq_true h6) rfl ?_
      refine wl_pickT rfl (decide_eq_true h6) rfl rfl ?_
      refine wl_move rfl rfl ?_
      refine wl_unwanted rfl rfl rfl rfl ?_
      refine wl_unwanted rfl rfl rfl rfl ?_
      refine wl_pickT rfl rfl rfl rfl ?_
      refine wl_nil ?_
      refine qs_seq ?_
      refine wc_sub (L' := [(23, _), (4, _), (2, _)]) (.cons rfl (.cons rfl (.cons rfl .nil))) ?_
      refine wc_condT rfl ?_
      refine wc_seq ?_
      refine wc_region ?_
      refine wl_assign rfl rfl ?_
      refine wl_nil ?_
      refine qs_seq ?_
      refine wc_ret ?_
      refine qs_then_ret ?_
      refine fin1 (.inr rfl) rfl rfl ?_
      exact ⟨_, rfl, by rw [uA, usedB, if_neg (by rintro ⟨q1, q2, q3, q4⟩; first | omega | (exact absurd q2 (by assumption)))], (hS5.pick [1, 2] rfl)⟩
    · skip
      refine wl_guard rfl rfl (decide_eq_false h6) ?_
      refine wl_move rfl rfl ?_
      refine wl_guard rfl rfl (decide_eq_false h6) ?_
      refine wl_lss rfl rfl rfl ?_
      refine wl_pickF rfl (decide_eq_false h6) rfl rfl ?_
      refine wl_move rfl rfl ?_
      refine wl_splitD 20 rfl (fun h7 => ?_) (fun h7 => ?_)
      · skip
        refine wl_unwanted rfl rfl (decide_eq_true h7) rfl ?_
        refine wl_unwanted rfl rfl (decide_eq_true h7) rfl ?_
        refine wl_pickT rfl (decide_eq_true h7) rfl rfl ?_
        refine wl_nil ?_
        refine qs_seq ?_
        refine wc_sub (L' := [(23, _), (4, _), (2, _)]) (.cons rfl (.cons rfl (.cons rfl .nil))) ?_
        refine wc_condT rfl ?_
        refine wc_seq ?_
        refine wc_region ?_
        refine wl_assign rfl rfl ?_
        refine wl_nil ?_
        refine qs_seq ?_
        refine wc_ret ?_
        refine qs_then_ret ?_
        refine fin1 (.inr rfl) rfl rfl ?_
        exact ⟨_, rfl, by rw [uA, usedB, if_neg (by rintro ⟨q1, q2, q3, q4⟩; first | omega | (exact absurd q2 (by assumption)))], (hS5.pick [1, 2] rfl)⟩
      · skip
        refine wl_guard rfl rfl (decide_eq_false h7) ?_
        refine wl_move rfl rfl ?_
        refine wl_guard rfl rfl (decide_eq_false h7) ?_
        refine wl_gtr rfl rfl rfl ?_
        refine wl_pickF rfl (decide_eq_false h7) rfl rfl ?_
        refine wl_nil ?_
        refine qs_seq ?_
        refine wc_sub (L' := [(23, _), (4, _), (2, _)]) (.cons rfl (.cons rfl (.cons rfl .nil))) ?_
        refine wc_condD rfl (fun h8 => ?_) (fun h8 => ?_)
        · skip
          refine wc_seq ?_
          refine wc_region ?_
          refine wl_assign rfl rfl ?_
          refine wl_nil ?_
          refine qs_seq ?_
          refine wc_ret ?_
          refine qs_then_ret ?_
          refine fin1 (.inr rfl) rfl rfl ?_
          exact ⟨_, rfl, by rw [uA, usedB, if_neg (by rintro ⟨q1, q2, q3, q4⟩; first | omega | (exact absurd q2 (by assumption)))], (hS5.pick [1, 2] rfl)⟩
        · skip
          refine wc_skip ?_
          refine qs_seq ?_
          refine wc_seq ?_
          refine wc_region ?_
          refine wl_move rfl rfl ?_
          refine wl_assign rfl rfl ?_
          refine wl_nil ?_
          refine qs_seq ?_
          refine wc_ret ?_
          refine fin1 (.inr rfl) rfl rfl ?_
          exact ⟨_, rfl, by rw [uA, usedB, if_pos ⟨by assumption, Decidable.not_not.1 (by assumption), by omega, by omega⟩], (hS5.pick [1, 2] rfl)⟩

theorem aset_sp {w : World} {p : Nat} {W : WS} {F : Th} (hS : Sat w [worldT p W, F]) (hG : Ent F WireG) (n : Int) (hn : 0 ≤ n ∧ n ≤ 1024) :
    Calls Tryd.prog 58 #[.iface 26 (ptrV p 0), intV n] w (Ret fun v w' => v = .tuple #[] ∧ Sat w' [worldT p (setA W n), F]) := by
  refine calls_enter Tryd.func58 rfl Tryd.ntmps58 rfl ?_
  refine wc_seq ?_
  refine wc_region ?_
  refine wl_assign rfl rfl ?_
  refine wl_nil ?_
  refine qs_seq ?_
  refine wc_seq ?_
  refine wc_seq ?_
  refine wc_region ?_
  refine wl_move rfl rfl ?_
  refine wl_gtr rfl rfl rfl ?_
  refine wl_nil ?_
  refine qs_seq ?_
  refine wc_condD rfl (fun h1 => ?_) (fun h1 => ?_)
  · skip
    refine wc_region ?_
    refine wl_move rfl rfl ?_
    have hC2 := hS.split [] [false, false] rfl; dsimp only [selF, pickA, nthA, List.cons_append, List.nil_append] at hC2
    refine wl_call cal_61 rfl (wInt_sp hC2 (hG.starL 1 rfl) n (by unfold inI; omega)) rfl ?_
    rintro e w2 ⟨_, rfl, rfl, hS2⟩; refine ⟨_, rfl, ?_⟩
    replace hS2 := hS2.join rfl; dsimp only [List.dropLast, List.cons_append, List.nil_append] at hS2; clear hC2
    refine wl_assign rfl rfl ?_
    refine wl_nil ?_
    refine qs_seq ?_
    refine wc_region ?_
    refine wl_move rfl rfl ?_
    refine wl_move rfl rfl ?_
    have hC3 := hS2.split [0] [true, false] rfl; dsimp only [selF, pickA, nthA, List.cons_append, List.nil_append] at hC3
    refine wl_invoke (vs := [strV [122], strV (Lib.itoa n ++ [59])]) rfl (imeth_Put p) cal_36 rfl (put_sp hC3 [122] (Lib.itoa n ++ [59]) (by simp) (by have := (itoa_len (n := n) (by unfold inI; omega)).1; simp; omega)) rfl ?_
    rintro e w3 ⟨_, rfl, rfl, hS3⟩; refine ⟨_, rfl, ?_⟩
    replace hS3 := hS3.join rfl; dsimp only [List.dropLast, List.cons_append, List.nil_append] at hS3; clear hC3
    clear hS2
    refine wl_nil ?_
    refine fin0 (.inl rfl) rfl ?_
    exact ⟨_, rfl, rfl, by rw [setA, encA, if_pos (by assumption)]; exact hS3⟩
  · skip
    refine wc_skip ?_
    refine qs_seq ?_
    refine wc_region ?_
    refine wl_move rfl rfl ?_
    refine wl_move rfl rfl ?_
    have hC4 := hS.split [0] [true, false] rfl; dsimp only [selF, pickA, nthA, List.cons_append, List.nil_append] at hC4
    refine wl_invoke (vs := [strV [122], strV []]) rfl (imeth_Put p) cal_36 rfl (put_sp hC4 [122] [] (by simp) (by simp)) rfl ?_
    rintro e w4 ⟨_, rfl, rfl, hS4⟩; refine ⟨_, rfl, ?_⟩
    replace hS4 := hS4.join rfl; dsimp only [List.dropLast, List.cons_append, List.nil_append] at hS4; clear hC4
    refine wl_nil ?_
    refine fin0 (.inl rfl) rfl ?_
    exact ⟨_, rfl, rfl, by rw [setA, encA, if_neg (by assumption)]; exact hS4⟩

theorem charge_sp {w : World} {p : Nat} {W : WS} {F : Th} (hS : Sat w [worldT p W, F]) (hG : Ent F WireG) (hz : (W.cells [122]).length ≤ 1000000) (n : Int) :
    Calls Tryd.prog 28 #[.iface 26 (ptrV p 0), intV n] w (Ret fun v w' => v = intV (chargeV W n) ∧ Sat w' [worldT p (chargeS W n), F]) := by
  refine calls_enter Tryd.func28 rfl Tryd.ntmps28 rfl ?_
  refine wc_seq ?_
  refine wc_region ?_
  refine wl_assign rfl rfl ?_
  refine wl_nil ?_
  refine qs_seq ?_
  refine wc_seq ?_
  refine wc_region ?_
  refine wl_move rfl rfl ?_
  have hC1 := hS.split [0] [true, false] rfl; dsimp only [selF, pickA, nthA, List.cons_append, List.nil_append] at hC1
  refine wl_call cal_30 rfl (used_sp hC1 (hG.starL 0 rfl) hz) rfl ?_
  rintro e w1 ⟨_, rfl, rfl, hS1⟩; refine ⟨_, rfl, ?_⟩
  replace hS1 := hS1.join rfl; dsimp only [List.dropLast, List.cons_append, List.nil_append] at hS1; clear hC1
  have hu := uA_le W
  refine wl_assign rfl rfl ?_
  refine wl_nil ?_
  refine qs_seq ?_
  refine wc_seq ?_
  refine wc_block ?_
  refine wc_seq ?_
  refine wc_region ?_
  refine wl_move rfl rfl ?_
  refine wl_lss rfl rfl rfl ?_
  refine wl_assign rfl rfl ?_
  refine wl_nil ?_
  refine qs_seq ?_
  refine wc_condD rfl (fun h2 => ?_) (fun h2 => ?_)
  · skip
    refine wc_seq ?_
    refine wc_region ?_
    refine wl_assign rfl rfl ?_
    refine wl_nil ?_
    refine qs_seq ?_
    refine wc_ret ?_
    refine qs_block_ret ?_
    refine qs_then_ret ?_
    refine fin1 (.inr rfl) rfl rfl ?_
    exact ⟨_, rfl, by unfold chargeV; rw [if_pos (by omega)], by unfold chargeS; rw [if_pos (by omega)]; exact hS1⟩
  · skip
    refine wc_seq ?_
    refine wc_region ?_
    refine wl_move rfl rfl ?_
    refine wl_move rfl rfl ?_
    refine wl_sub' rfl rfl (by omega) (by omega) rfl ?_
    refine wl_gtr rfl rfl rfl ?_
    refine wl_assign rfl rfl ?_
    refine wl_nil ?_
    refine qs_seq ?_
    refine wc_sub (L' := [(11, _), (5, _), (4, _), (0, _), (1, _)]) (.cons rfl (.cons rfl (.cons rfl (.cons rfl (.cons rfl .nil))))) ?_
    refine wc_condD rfl (fun h3 => ?_) (fun h3 => ?_)
    · skip
      refine wc_seq ?_
      refine wc_region ?_
      refine wl_assign rfl rfl ?_
      refine wl_nil ?_
      refine qs_seq ?_
      refine wc_ret ?_
      refine qs_block_ret ?_
      refine qs_then_ret ?_
      refine fin1 (.inr rfl) rfl rfl ?_
      exact ⟨_, rfl, by unfold chargeV; rw [if_neg (by omega), if_pos (by omega)], by unfold chargeS; rw [if_neg (by omega), if_pos (by omega)]; exact hS1⟩
    · skip
      refine wc_skip ?_
      refine qs_block_normal ?_
      refine qs_seq ?_
      refine wc_seq ?_
      refine wc_region ?_
      refine wl_move rfl rfl ?_
      refine wl_move rfl rfl ?_
      refine wl_move rfl rfl ?_
      refine wl_add rfl rfl (by omega) (by omega) rfl ?_
      have hC4 := hS1.split [0] [true, false] rfl; dsimp only [selF, pickA, nthA, List.cons_append, List.nil_append] at hC4
      refine wl_call cal_58 rfl (aset_sp hC4 (hG.starL 0 rfl) (uA W + n) (by omega)) rfl ?_
      rintro e w4 ⟨_, rfl, rfl, hS4⟩; refine ⟨_, rfl, ?_⟩
      replace hS4 := hS4.join rfl; dsimp only [List.dropLast, List.cons_append, List.nil_append] at hS4; clear hC4
      clear hS1
      refine wl_nil ?_
      refine qs_seq ?_
      refine wc_seq ?_
      refine wc_region ?_
      refine wl_assign rfl rfl ?_
      refine wl_nil ?_
      refine qs_seq ?_
      refine wc_ret ?_
      refine fin1 (.inr rfl) rfl rfl ?_
      exact ⟨_, rfl, by unfold chargeV; rw [if_neg (by omega), if_neg (by omega)], by unfold chargeS; rw [if_neg (by omega), if_neg (by omega)]; exact hS4⟩

theorem release_sp {w : World} {p : Nat} {W : WS} {F : Th} (hS : Sat w [worldT p W, F]) (hG : Ent F WireG) (hz : (W.cells [122]).length ≤ 1000000) (n : Int) :
    Calls Tryd.prog 29 #[.iface 26 (ptrV p 0), intV n] w (Ret fun v w' => v = .tuple #[] ∧ Sat w' [worldT p (releaseS W n), F]) := by
  refine calls_enter Tryd.func29 rfl Tryd.ntmps29 rfl ?_
  refine wc_seq ?_
  refine wc_region ?_
  refine wl_move rfl rfl ?_
  have hC1 := hS.split [0] [true, false] rfl; dsimp only [selF, pickA, nthA, List.cons_append, List.nil_append] at hC1
  refine wl_call cal_30 rfl (used_sp hC1 (hG.starL 0 rfl) hz) rfl ?_
  rintro e w1 ⟨_, rfl, rfl, hS1⟩; refine ⟨_, rfl, ?_⟩
  replace hS1 := hS1.join rfl; dsimp only [List.dropLast, List.cons_append, List.nil_append] at hS1; clear hC1
  have hu := uA_le W
  refine wl_assign rfl rfl ?_
  refine wl_nil ?_
  refine qs_seq ?_
  refine wc_seq ?_
  refine wc_region ?_
  refine wl_move rfl rfl ?_
  refine wl_geq rfl rfl rfl ?_
  refine wl_nil ?_
  refine qs_seq ?_
  refine wc_condD rfl (fun h2 => ?_) (fun h2 => ?_)
  · skip
    refine wc_region ?_
    refine wl_move rfl rfl ?_
    refine wl_move rfl rfl ?_
    refine wl_move rfl rfl ?_
    refine wl_move rfl rfl ?_
    refine wl_minI rfl rfl rfl ?_
    refine wl_sub' rfl rfl (by omega) (by omega) rfl ?_
    have hC3 := hS1.split [0] [true, false] rfl; dsimp only [selF, pickA, nthA, List.cons_append, List.nil_append] at hC3
    refine wl_call cal_58 rfl (aset_sp hC3 (hG.starL 0 rfl) (uA W - min n (uA W)) (by omega)) rfl ?_
    rintro e w3 ⟨_, rfl, rfl, hS3⟩; refine ⟨_, rfl, ?_⟩
    replace hS3 := hS3.join rfl; dsimp only [List.dropLast, List.cons_append, List.nil_append] at hS3; clear hC3
    clear hS1
    refine wl_nil ?_
    refine fin0 (.inl rfl) rfl ?_
    exact ⟨_, rfl, rfl, by unfold releaseS; rw [if_pos (by omega)]; exact hS3⟩
  · skip
    refine wc_skip ?_
    refine fin0 (.inl rfl) rfl ?_
    exact ⟨_, rfl, rfl, by unfold releaseS; rw [if_neg (by omega)]; exact hS1⟩

end Go.Proofs.YtieelilkkpcmdaaDoor
