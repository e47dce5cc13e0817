/- reference 26: Ready to SetFg; model -/
import Derived.Test.YtdkfppcafpjomaaGreatDoorRt1
namespace Go.Proofs.YtdkfppcafpjomaaGreatDoor
open Go.RowKit M
set_option linter.unusedVariables false
set_option maxRecDepth 100000 in
theorem qReady_sp {w : World} {F : Th} {q m : Nat} {W : WS} (hS : Sat w [refL q W m, F]) (hm : m ≤ 800) (hB : TB W) (now : Int) :
    Calls Tryz.prog 33 #[ptrV q 0, intV now] w (Ret fun v w' => v = .bool (readyW W now) ∧ Sat w' [refL q W m, F]) := by
  refine calls_enter Tryz.func33 rfl Tryz.ntmps33 rfl ?_
  refine wc_seq ?_
  refine wc_region ?_
  refine wl_assign rfl rfl ?_
  refine wl_nil ?_
  refine qs_seq ?_
  refine wc_seq ?_
  refine wc_seq ?_
  refine wc_region ?_
  refine wl_move rfl rfl ?_
  have hC1 := hS.split [0] [true, false] rfl; dsimp only [selF, pickA, nthA, List.cons_append, List.nil_append] at hC1
  refine wl_call cal_16 rfl (lGet hC1 (by omega) kPart) rfl ?_
  rintro e w1 ⟨_, rfl, rfl, hS1⟩; refine ⟨_, rfl, ?_⟩
  replace hS1 := hS1.join rfl; dsimp only [List.dropLast, List.cons_append, List.nil_append] at hS1; clear hC1
  refine wl_neqS rfl rfl rfl ?_
  refine wl_nil ?_
  refine qs_seq ?_
  refine wc_condD rfl (fun h2 => ?_) (fun h2 => ?_)
  · skip
    refine wc_seq ?_
    refine wc_region ?_
    refine wl_assign rfl rfl ?_
    refine wl_nil ?_
    refine qs_seq ?_
    refine wc_ret ?_
    refine qs_then_ret ?_
    refine fin1 (.inr rfl) rfl rfl ?_
    exact ⟨_, rfl, by unfold readyW readyX; rw [if_pos (by assumption)], hS1.pick [0, 1] rfl⟩
  · skip
    refine wc_skip ?_
    refine qs_seq ?_
    refine wc_seq ?_
    refine wc_region ?_
    refine wl_move rfl rfl ?_
    have hC3 := hS1.split [0] [true, false] rfl; dsimp only [selF, pickA, nthA, List.cons_append, List.nil_append] at hC3
    refine wl_call cal_61 rfl (qNext_sp hC3 (by omega) (hB _) kPos (hB _) false) rfl ?_
    rintro e w3 ⟨_, rfl, rfl, hS3⟩; refine ⟨_, rfl, ?_⟩
    replace hS3 := hS3.join rfl; dsimp only [List.dropLast, List.cons_append, List.nil_append] at hS3; clear hC3
    clear hS1
    refine wl_assign rfl rfl ?_
    refine wl_nil ?_
    refine qs_seq ?_
    refine wc_seq ?_
    refine wc_region ?_
    refine wl_move rfl rfl ?_
    refine wl_geq rfl rfl rfl ?_
    refine wl_move rfl rfl ?_
    refine wl_splitD 13 rfl (fun h4 => ?_) (fun h4 => ?_)
    · skip
      obtain ⟨i, hi⟩ := nxP_yes h4
      rw [hi] at h4 ⊢
      dsimp only [nxP]
      obtain ⟨hi1, hi2⟩ := next_ok hi
      have hik := item_ok W hi2
      have hi3 : nextF (itemsW W) (posW W kPos) false = some i := hi
      refine wl_guard rfl rfl (decide_eq_true h4) ?_
      refine wl_move rfl rfl ?_
      refine wl_guard rfl rfl (decide_eq_true h4) ?_
      have hC5 := hS3.split [0] [true, false] rfl; dsimp only [selF, pickA, nthA, List.cons_append, List.nil_append] at hC5
      refine wl_call cal_13 rfl (qItems_sp hC5 (by omega) (hB _)) rfl ?_
      rintro e w5 ⟨_, rfl, hS5⟩; refine ⟨_, rfl, ?_⟩
      replace hS5 := hS5.join rfl; dsimp only [List.dropLast, List.cons_append, List.nil_append] at hS5; clear hC5
      clear hS3
      refine wl_guard rfl rfl (decide_eq_true h4) ?_
      refine wl_move rfl rfl ?_
      refine wl_guard rfl rfl (decide_eq_true h4) ?_
      refine wl_maxI rfl rfl rfl ?_
      refine wl_guard rfl rfl (decide_eq_true h4) ?_
      refine wl_rowIdx itC 0 i hS5 rfl rfl rfl (by first | rfl | omega) hi2 es_34 rfl ?_
      intro bx6 capx6 hvx6
      refine wl_guard rfl rfl (decide_eq_true h4) ?_
      refine wl_fieldAddr rfl fo_49_0 rfl ?_
      refine wl_guard rfl rfl (decide_eq_true h4) ?_
      refine wl_rowLoad 0 i 0 hS5 rfl hvx6 rfl rfl hi2 ag_3 rfl rfl ?_
      refine wl_guard rfl rfl (decide_eq_true h4) ?_
      refine wl_move rfl rfl ?_
      refine wl_guard rfl rfl (decide_eq_true h4) ?_
      refine wl_leq rfl rfl rfl ?_
      refine wl_pickT rfl (decide_eq_true h4) rfl rfl ?_
      refine wl_assign rfl rfl ?_
      refine wl_nil ?_
      refine qs_seq ?_
      refine wc_sub (L' := [(4, _)]) (.cons rfl .nil) ?_
      refine wc_ret ?_
      refine fin1 (.inr rfl) rfl rfl ?_
      exact ⟨_, rfl, by unfold readyW readyX; rw [if_neg (by assumption), hi3]; first | done | rfl, hS5.pick [1, 2] rfl⟩
    · skip
      have hi := nxP_no h4
      have hi3 : nextF (itemsW W) (posW W kPos) false = none := hi
      refine wl_unwanted rfl rfl (decide_eq_false h4) rfl ?_
      refine wl_unwanted rfl rfl (decide_eq_false h4) rfl ?_
      refine wl_unwanted rfl rfl (decide_eq_false h4) rfl ?_
      refine wl_unwanted rfl rfl (decide_eq_false h4) rfl ?_
      refine wl_unwanted rfl rfl (decide_eq_false h4) rfl ?_
      refine wl_unwanted rfl rfl (decide_eq_false h4) rfl ?_
      refine wl_unwanted rfl rfl (decide_eq_false h4) rfl ?_
      refine wl_unwanted rfl rfl (decide_eq_false h4) rfl ?_
      refine wl_unwanted rfl rfl (decide_eq_false h4) rfl ?_
      refine wl_pickF rfl (decide_eq_false h4) rfl rfl ?_
      refine wl_assign rfl rfl ?_
      refine wl_nil ?_
      refine qs_seq ?_
      refine wc_sub (L' := [(4, _)]) (.cons rfl .nil) ?_
      refine wc_ret ?_
      refine fin1 (.inr rfl) rfl rfl ?_
      exact ⟨_, rfl, by unfold readyW readyX; rw [if_neg (by assumption), hi3]; first | done | rfl, hS3.pick [0, 1] rfl⟩

set_option maxRecDepth 100000 in
theorem qControl_sp {w : World} {F : Th} {q m : Nat} {W : WS} (hS : Sat w [refL q W m, F]) (hm : m ≤ 800) (hB : TB W) (now : Int) :
    Calls Tryz.prog 34 #[ptrV q 0, intV now] w (Ret fun v w' => v = .bool (ctlW W now) ∧ Sat w' [refL q W m, F]) := by
  refine calls_enter Tryz.func34 rfl Tryz.ntmps34 rfl ?_
  refine wc_seq ?_
  refine wc_region ?_
  refine wl_assign rfl rfl ?_
  refine wl_nil ?_
  refine qs_seq ?_
  refine wc_seq ?_
  refine wc_region ?_
  refine wl_move rfl rfl ?_
  have hC1 := hS.split [0] [true, false] rfl; dsimp only [selF, pickA, nthA, List.cons_append, List.nil_append] at hC1
  refine wl_call cal_61 rfl (qNext_sp hC1 (by omega) (hB _) kCtl (hB _) true) rfl ?_
  rintro e w1 ⟨_, rfl, rfl, hS1⟩; refine ⟨_, rfl, ?_⟩
  replace hS1 := hS1.join rfl; dsimp only [List.dropLast, List.cons_append, List.nil_append] at hS1; clear hC1
  refine wl_assign rfl rfl ?_
  refine wl_nil ?_
  refine qs_seq ?_
  refine wc_seq ?_
  refine wc_region ?_
  refine wl_move rfl rfl ?_
  refine wl_geq rfl rfl rfl ?_
  refine wl_move rfl rfl ?_
  refine wl_splitD 10 rfl (fun h2 => ?_) (fun h2 => ?_)
  · skip
    obtain ⟨i, hi⟩ := nxP_yes h2
    rw [hi] at h2 ⊢
    dsimp only [nxP]
    obtain ⟨hi1, hi2⟩ := next_ok hi
    have hik := item_ok W hi2
    have hi3 : nextF (itemsW W) (posW W kCtl) true = some i := hi
    refine wl_guard rfl rfl (decide_eq_true h2) ?_
    refine wl_move rfl rfl ?_
    refine wl_guard rfl rfl (decide_eq_true h2) ?_
    have hC3 := hS1.split [0] [true, false] rfl; dsimp only [selF, pickA, nthA, List.cons_append, List.nil_append] at hC3
    refine wl_call cal_13 rfl (qItems_sp hC3 (by omega) (hB _)) rfl ?_
    rintro e w3 ⟨_, rfl, hS3⟩; refine ⟨_, rfl, ?_⟩
    replace hS3 := hS3.join rfl; dsimp only [List.dropLast, List.cons_append, List.nil_append] at hS3; clear hC3
    clear hS1
    refine wl_guard rfl rfl (decide_eq_true h2) ?_
    refine wl_move rfl rfl ?_
    refine wl_guard rfl rfl (decide_eq_true h2) ?_
    refine wl_maxI rfl rfl rfl ?_
    refine wl_guard rfl rfl (decide_eq_true h2) ?_
    refine wl_rowIdx itC 0 i hS3 rfl rfl rfl (by first | rfl | omega) hi2 es_34 rfl ?_
    intro bx4 capx4 hvx4
    refine wl_guard rfl rfl (decide_eq_true h2) ?_
    refine wl_fieldAddr rfl fo_49_0 rfl ?_
    refine wl_guard rfl rfl (decide_eq_true h2) ?_
    refine wl_rowLoad 0 i 0 hS3 rfl hvx4 rfl rfl hi2 ag_3 rfl rfl ?_
    refine wl_guard rfl rfl (decide_eq_true h2) ?_
    refine wl_move rfl rfl ?_
    refine wl_guard rfl rfl (decide_eq_true h2) ?_
    refine wl_leq rfl rfl rfl ?_
    refine wl_pickT rfl (decide_eq_true h2) rfl rfl ?_
    refine wl_assign rfl rfl ?_
    refine wl_nil ?_
    refine qs_seq ?_
    refine wc_sub (L' := [(4, _)]) (.cons rfl .nil) ?_
    refine wc_ret ?_
    refine fin1 (.inr rfl) rfl rfl ?_
    exact ⟨_, rfl, by unfold ctlW dueI dueX; rw [hi3]; dsimp only; congr 1; by_cases hq : now < (ix (itemsW W) i).a <;> simp [hq] <;> omega, hS3.pick [1, 2] rfl⟩
  · skip
    have hi := nxP_no h2
    have hi3 : nextF (itemsW W) (posW W kCtl) true = none := hi
    refine wl_unwanted rfl rfl (decide_eq_false h2) rfl ?_
    refine wl_unwanted rfl rfl (decide_eq_false h2) rfl ?_
    refine wl_unwanted rfl rfl (decide_eq_false h2) rfl ?_
    refine wl_unwanted rfl rfl (decide_eq_false h2) rfl ?_
    refine wl_unwanted rfl rfl (decide_eq_false h2) rfl ?_
    refine wl_unwanted rfl rfl (decide_eq_false h2) rfl ?_
    refine wl_unwanted rfl rfl (decide_eq_false h2) rfl ?_
    refine wl_unwanted rfl rfl (decide_eq_false h2) rfl ?_
    refine wl_unwanted rfl rfl (decide_eq_false h2) rfl ?_
    refine wl_pickF rfl (decide_eq_false h2) rfl rfl ?_
    refine wl_assign rfl rfl ?_
    refine wl_nil ?_
    refine qs_seq ?_
    refine wc_sub (L' := [(4, _)]) (.cons rfl .nil) ?_
    refine wc_ret ?_
    refine fin1 (.inr rfl) rfl rfl ?_
    exact ⟨_, rfl, by unfold ctlW dueI dueX; rw [hi3]; dsimp only; rfl, hS1.pick [0, 1] rfl⟩

theorem putS_twice (W : WS) (k a b : Bs) : putS (putS W k a) k b = putS W k b := by
  unfold putS
  congr 1
  funext j
  simp only [updC]
  split <;> rfl
theorem ready_no {W : WS} {now : Int} (h : readyW W now = false) : W.cells kPart = [] ∧ (nextW W kPos false = none ∨ ∃ i, nextW W kPos false = some i ∧ now < (ix (itemsW W) i).a) := by
  unfold readyW readyX at h
  split at h
  · cases h
  · rename_i hp
    refine ⟨Decidable.not_not.1 hp, ?_⟩
    unfold nextW
    cases hq : nextF (itemsW W) (posW W kPos) false with
    | none => exact .inl rfl
    | some i => rw [hq] at h; exact .inr ⟨i, rfl, by simp at h; omega⟩
theorem ready_yes {W : WS} {now : Int} (h : readyW W now = true) (hp : W.cells kPart = []) : ∃ i, nextW W kPos false = some i ∧ ¬ now < (ix (itemsW W) i).a := by
  unfold readyW readyX at h
  rw [if_neg (by simp [hp])] at h
  unfold nextW
  cases hq : nextF (itemsW W) (posW W kPos) false with
  | none => rw [hq] at h; cases h
  | some i => rw [hq] at h; exact ⟨i, rfl, by simp at h; omega⟩
/-- a read that finds nothing -/
theorem read_no {W : WS} {now n : Int} (hn : ¬ n < 1) (h : readyW W now = false) : readTV W now n = ([], 2) ∧ readTW W now n = W := by
  obtain ⟨h1, h2⟩ := ready_no h
  have h3 : ¬ W.cells kPart ≠ [] := by simp [h1]
  unfold readTV readX readTW
  rw [if_neg hn, if_neg hn, if_neg h3, if_neg h3]
  unfold nextW at h2 ⊢
  rcases h2 with q | ⟨i, q, q2⟩
  · rw [q]; exact ⟨rfl, rfl⟩
  · rw [q]; dsimp only; rw [if_pos q2, if_pos q2]; exact ⟨rfl, rfl⟩
theorem read_part {W : WS} {now n : Int} (hn : ¬ n < 1) (hp : W.cells kPart ≠ []) : readTV W now n = ((W.cells kPart).take (min n (W.cells kPart).length).toNat, 0) ∧ readTW W now n = putS W kPart ((W.cells kPart).drop (min n (W.cells kPart).length).toNat) := by
  unfold readTV readX readTW
  rw [if_neg hn, if_neg hn, if_pos hp, if_pos hp]
  exact ⟨rfl, rfl⟩
theorem read_eof {W : WS} {now n : Int} {i : Nat} (hn : ¬ n < 1) (hp : W.cells kPart = []) (hi : nextW W kPos false = some i) (ha : ¬ now < (ix (itemsW W) i).a) (hk : (ix (itemsW W) i).k = 1) : readTV W now n = ([], 1) ∧ readTW W now n = putS W kPos (encN ((i : Int) + 1)) := by
  have h3 : ¬ W.cells kPart ≠ [] := by simp [hp]
  unfold readTV readX readTW
  rw [if_neg hn, if_neg hn, if_neg h3, if_neg h3]
  unfold nextW at hi ⊢
  rw [hi]; dsimp only
  rw [if_neg ha, if_neg ha, if_pos hk, if_pos hk]
  exact ⟨rfl, rfl⟩
theorem read_line {W : WS} {now n : Int} {i : Nat} {xt : Bs} (hn : ¬ n < 1) (hp : W.cells kPart = []) (hi : nextW W kPos false = some i) (ha : ¬ now < (ix (itemsW W) i).a) (hk : ¬ (ix (itemsW W) i).k = 1) (hx : xt = (ix (itemsW W) i).t ++ [10]) : readTV W now n = (xt.take (min n xt.length).toNat, 0) ∧ readTW W now n = putS (putS W kPos (encN ((i : Int) + 1))) kPart (xt.drop (min n xt.length).toNat) := by
  have h3 : ¬ W.cells kPart ≠ [] := by simp [hp]
  have hl : (xt.length : Int) = (ix (itemsW W) i).t.length + 1 := by rw [hx]; simp
  rw [hl]
  unfold readTV readX readTW
  rw [if_neg hn, if_neg hn, if_neg h3, if_neg h3]
  unfold nextW at hi ⊢
  rw [hi]; dsimp only
  rw [if_neg ha, if_neg ha, if_neg hk, if_neg hk, hx]
  exact ⟨rfl, rfl⟩
set_option maxRecDepth 100000 in
set_option maxHeartbeats 1000000 in
theorem qRead_sp {w : World} {F : Th} {q m : Nat} {W : WS} (hS : Sat w [refL q W m, F]) (hm : m ≤ 800) (hB : TB W) (now n : Int) :
    Calls Tryz.prog 39 #[ptrV q 0, intV now, intV n] w (Ret fun v w' => v = .tuple #[strV (readTV W now n).1, intV (readTV W now n).2] ∧ Sat w' [refL q (readTW W now n) (m + 3), F]) := by
  refine calls_enter Tryz.func39 rfl Tryz.ntmps39 rfl ?_
  refine wc_seq ?_
  refine wc_region ?_
  refine wl_assign rfl rfl ?_
  refine wl_assign rfl rfl ?_
  refine wl_nil ?_
  refine qs_seq ?_
  refine wc_seq ?_
  refine wc_seq ?_
  refine wc_region ?_
  refine wl_move rfl rfl ?_
  refine wl_lss rfl rfl rfl ?_
  refine wl_nil ?_
  refine qs_seq ?_
  refine wc_condD rfl (fun h1 => ?_) (fun h1 => ?_)
  · skip
    refine wc_seq ?_
    refine wc_region ?_
    refine wl_assign rfl rfl ?_
    refine wl_assign rfl rfl ?_
    refine wl_nil ?_
    refine qs_seq ?_
    refine wc_ret ?_
    refine qs_then_ret ?_
    refine fin2 (.inr rfl) rfl rfl rfl ?_
    exact ⟨_, rfl, by unfold readTV; rw [read_none (by assumption)], by unfold readTW; rw [if_pos (by assumption)]; exact refL_up (by omega) (hS.pick [0, 1] rfl)⟩
  · skip
    refine wc_skip ?_
    refine qs_seq ?_
    refine wc_seq ?_
    refine wc_seq ?_
    refine wc_region ?_
    refine wl_move rfl rfl ?_
    refine wl_move rfl rfl ?_
    have hC2 := hS.split [0] [true, false] rfl; dsimp only [selF, pickA, nthA, List.cons_append, List.nil_append] at hC2
    refine wl_call cal_33 rfl (qReady_sp hC2 (by omega) hB now) rfl ?_
    rintro e w2 ⟨_, rfl, rfl, hS2⟩; refine ⟨_, rfl, ?_⟩
    replace hS2 := hS2.join rfl; dsimp only [List.dropLast, List.cons_append, List.nil_append] at hS2; clear hC2
    refine wl_not rfl rfl ?_
    refine wl_nil ?_
    refine qs_seq ?_
    refine wc_sub (L' := [(16, _), (7, _), (6, _), (0, _), (2, _)]) (.cons rfl (.cons rfl (.cons rfl (.cons rfl (.cons rfl .nil))))) ?_
    refine wc_cond rfl (fun h3 => ?_) (fun h3 => ?_)
    · skip
      have hrn : readyW W now = false := by simpa using h3
      refine wc_seq ?_
      refine wc_region ?_
      refine wl_assign rfl rfl ?_
      refine wl_assign rfl rfl ?_
      refine wl_nil ?_
      refine qs_seq ?_
      refine wc_ret ?_
      refine qs_then_ret ?_
      refine fin2 (.inr rfl) rfl rfl rfl ?_
      have hr := read_no (by assumption) (now := now) hrn
      exact ⟨_, rfl, by rw [hr.1]; first | done | rfl | (rw [hst]), by rw [hr.2]; exact refL_up (by omega) (hS2.pick [0, 1] rfl)⟩
    · skip
      have hry : readyW W now = true := by simpa using h3
      refine wc_skip ?_
      refine qs_seq ?_
      refine wc_seq ?_
      refine wc_seq ?_
      refine wc_region ?_
      refine wl_move rfl rfl ?_
      have hC4 := hS2.split [0] [true, false] rfl; dsimp only [selF, pickA, nthA, List.cons_append, List.nil_append] at hC4
      refine wl_call cal_16 rfl (lGet hC4 (by omega) kPart) rfl ?_
      rintro e w4 ⟨_, rfl, rfl, hS4⟩; refine ⟨_, rfl, ?_⟩
      replace hS4 := hS4.join rfl; dsimp only [List.dropLast, List.cons_append, List.nil_append] at hS4; clear hC4
      clear hS2
      refine wl_eqlS rfl rfl rfl ?_
      refine wl_nil ?_
      refine qs_seq ?_
      refine wc_condD rfl (fun h5 => ?_) (fun h5 => ?_)
      · skip
        have hpe : W.cells kPart = [] := h5
        obtain ⟨i, hi, hia⟩ := ready_yes hry hpe
        obtain ⟨hi1, hi2⟩ := next_ok hi
        have hik := item_ok W hi2
        refine wc_seq ?_
        refine wc_region ?_
        refine wl_move rfl rfl ?_
        have hC6 := hS4.split [0] [true, false] rfl; dsimp only [selF, pickA, nthA, List.cons_append, List.nil_append] at hC6
        refine wl_call cal_61 rfl (qNext_sp hC6 (by omega) (hB _) kPos (hB _) false) rfl ?_
        rintro e w6 ⟨_, rfl, rfl, hS6⟩; refine ⟨_, rfl, ?_⟩
        replace hS6 := hS6.join rfl; dsimp only [List.dropLast, List.cons_append, List.nil_append] at hS6; clear hC6
        clear hS4
        refine wl_assign rfl rfl ?_
        refine wl_nil ?_
        refine qs_seq ?_
        refine wc_sub (L' := [(8, _), (7, _), (6, _), (0, _), (2, _)]) (.cons rfl (.cons rfl (.cons rfl (.cons rfl (.cons rfl .nil))))) ?_
        refine wc_seq ?_
        rw [hi]
        dsimp only [nxP]
        refine wc_region ?_
        refine wl_move rfl rfl ?_
        have hC7 := hS6.split [0] [true, false] rfl; dsimp only [selF, pickA, nthA, List.cons_append, List.nil_append] at hC7
        refine wl_call cal_13 rfl (qItems_sp hC7 (by omega) (hB _)) rfl ?_
        rintro e w7 ⟨_, rfl, hS7⟩; refine ⟨_, rfl, ?_⟩
        replace hS7 := hS7.join rfl; dsimp only [List.dropLast, List.cons_append, List.nil_append] at hS7; clear hC7
        clear hS6
        refine wl_move rfl rfl ?_
        refine wl_maxI rfl rfl rfl ?_
        refine wl_rowIdx itC 0 i hS7 rfl rfl rfl (by first | rfl | omega) hi2 es_34 rfl ?_
        intro bx8 capx8 hvx8
        refine wl_rowLoadA 0 i hS7 rfl hvx8 rfl hi2 ag_49 sz_49 rfl rfl ?_
        refine wl_alloc hS7 zr_49 rfl rfl ?_
        intro b9 w9 hS9
        clear hS7
        first | (refine wl_storeA hS9 rfl rfl sz_49 rfl (by first | rfl | (simp [allOne, Value.oneCell']; done) | assumption | exact hone) (i := 0) rfl (by first | decide | exact Nat.le_of_ble_eq_true rfl | (simp; done) | omega) ?_)
        intro w10 hS11; dsimp only [List.set] at hS11
        clear hS9
        refine wl_nil ?_
        refine qs_seq ?_
        refine wc_sub (L' := [(9, _), (8, _), (7, _), (6, _), (0, _), (2, _)]) (.cons rfl (.cons rfl (.cons rfl (.cons rfl (.cons rfl (.cons rfl .nil)))))) ?_
        refine wc_seq ?_
        refine wc_region ?_
        refine wl_move rfl rfl ?_
        refine wl_move rfl rfl ?_
        refine wl_add rfl rfl (by first | omega | (simp; omega)) (by first | omega | (simp; omega)) rfl ?_
        have hC12 := hS11.split [] [false, false, false, false] rfl; dsimp only [selF, pickA, nthA, List.cons_append, List.nil_append] at hC12
        refine wl_call cal_62 rfl (r1Int_sp hC12 ((i : Int) + 1) (by unfold inI; omega)) rfl ?_
        rintro e w12 ⟨_, rfl, rfl, hS12⟩; refine ⟨_, rfl, ?_⟩
        replace hS12 := hS12.join rfl; dsimp only [List.dropLast, List.cons_append, List.nil_append] at hS12; clear hC12
        clear hS11
        have hC13 := hS12.split [2] [false, false, true, false] rfl; dsimp only [selF, pickA, nthA, List.cons_append, List.nil_append] at hC13
        refine wl_call cal_38 rfl (lPut hC13 (by omega) kPos (encN ((i : Int) + 1))) rfl ?_
        rintro e w13 ⟨_, rfl, rfl, hS13⟩; refine ⟨_, rfl, ?_⟩
        replace hS13 := hS13.join rfl; dsimp only [List.dropLast, List.cons_append, List.nil_append] at hS13; clear hC13
        clear hS12
        refine wl_nil ?_
        refine qs_seq ?_
        refine wc_sub (L' := [(9, _), (7, _), (6, _), (0, _), (2, _)]) (.cons rfl (.cons rfl (.cons rfl (.cons rfl (.cons rfl .nil))))) ?_
        refine wc_seq ?_
        refine wc_seq ?_
        refine wc_region ?_
        refine wl_fieldAddr rfl fo_49_1 rfl ?_
        refine wl_load rfl ag_3 (by first | assumption | exact hS13.cell 1 rfl rfl) rfl ?_
        refine wl_eql rfl rfl rfl ?_
        refine wl_nil ?_
        refine qs_seq ?_
        refine wc_condD rfl (fun h14 => ?_) (fun h14 => ?_)
        · skip
          refine wc_seq ?_
          refine wc_region ?_
          refine wl_assign rfl rfl ?_
          refine wl_assign rfl rfl ?_
          refine wl_nil ?_
          refine qs_seq ?_
          refine wc_ret ?_
          refine qs_then_ret ?_
          refine qs_then_ret ?_
          refine fin2 (.inr rfl) rfl rfl rfl ?_
          have hr := read_eof (by assumption) hpe hi hia (by assumption)
          exact ⟨_, rfl, by rw [hr.1]; first | done | rfl | (rw [hst]), by rw [hr.2]; exact refL_up (by omega) (hS13.pick [0, 3] rfl)⟩
        · skip
          refine wc_skip ?_
          refine qs_seq ?_
          obtain ⟨xt, hxt⟩ : ∃ xt, xt = (ix (itemsW W) i).t ++ [10] := ⟨_, rfl⟩
          have hxl : xt.length = (ix (itemsW W) i).t.length + 1 := by rw [hxt]; simp
          refine wc_region ?_
          refine wl_move rfl rfl ?_
          refine wl_fieldAddr rfl fo_49_2 rfl ?_
          refine wl_load rfl ag_9 (by first | assumption | exact hS13.cell 1 rfl rfl) rfl ?_
          refine wl_concat rfl rfl (by first | omega | (simp; omega)) rfl ?_
          rw [← hxt]
          have hC15 := hS13.split [0] [true, false, false, false] rfl; dsimp only [selF, pickA, nthA, List.cons_append, List.nil_append] at hC15
          refine wl_call cal_38 rfl (lPut hC15 (by omega) kPart xt) rfl ?_
          rintro e w15 ⟨_, rfl, rfl, hS15⟩; refine ⟨_, rfl, ?_⟩
          replace hS15 := hS15.join rfl; dsimp only [List.dropLast, List.cons_append, List.nil_append] at hS15; clear hC15
          clear hS13
          refine wl_nil ?_
          refine qs_seq ?_
          refine wc_sub (L' := [(7, _), (6, _), (0, _), (2, _)]) (.cons rfl (.cons rfl (.cons rfl (.cons rfl .nil)))) ?_
          refine wc_seq ?_
          refine wc_region ?_
          refine wl_move rfl rfl ?_
          have hC16 := hS15.split [0] [true, false, false, false] rfl; dsimp only [selF, pickA, nthA, List.cons_append, List.nil_append] at hC16
          refine wl_call cal_16 rfl (lGet hC16 (by omega) kPart) rfl ?_
          rintro e w16 ⟨_, rfl, rfl, hS16⟩; refine ⟨_, rfl, ?_⟩
          replace hS16 := hS16.join rfl; dsimp only [List.dropLast, List.cons_append, List.nil_append] at hS16; clear hC16
          clear hS15
          rw [putS_at]
          obtain ⟨st, hst⟩ : ∃ st, st = xt := ⟨_, rfl⟩
          rw [← hst]
          refine wl_assign rfl rfl ?_
          refine wl_nil ?_
          refine qs_seq ?_
          refine wc_seq ?_
          refine wc_region ?_
          refine wl_move rfl rfl ?_
          refine wl_move rfl rfl ?_
          refine wl_lenS Tryz.underlying9 rfl rfl ?_
          refine wl_minI rfl rfl rfl ?_
          refine wl_assign rfl rfl ?_
          refine wl_nil ?_
          refine qs_seq ?_
          refine wc_sub (L' := [(2, _), (10, _), (7, _), (6, _), (0, _)]) (.cons rfl (.cons rfl (.cons rfl (.cons rfl (.cons rfl .nil))))) ?_
          refine wc_seq ?_
          refine wc_region ?_
          refine wl_move rfl rfl ?_
          refine wl_move rfl rfl ?_
          refine wl_move rfl rfl ?_
          refine wl_sliceS (min n st.length).toNat st.length Tryz.underlying9 rfl (bndS (min n st.length).toNat _ rfl (by first | rfl | (simp; omega) | omega)) (bndN _) (by first | omega | (simp; omega)) (by first | omega | (simp; omega)) rfl ?_
          rw [List.take_length]
          have hC17 := hS16.split [0] [true, false, false, false] rfl; dsimp only [selF, pickA, nthA, List.cons_append, List.nil_append] at hC17
          refine wl_call cal_38 rfl (lPut hC17 (by omega) kPart (st.drop (min n st.length).toNat)) rfl ?_
          rintro e w17 ⟨_, rfl, rfl, hS17⟩; refine ⟨_, rfl, ?_⟩
          replace hS17 := hS17.join rfl; dsimp only [List.dropLast, List.cons_append, List.nil_append] at hS17; clear hC17
          clear hS16
          refine wl_nil ?_
          refine qs_seq ?_
          refine wc_seq ?_
          refine wc_region ?_
          refine wl_move rfl rfl ?_
          refine wl_move rfl rfl ?_
          refine wl_sliceS 0 (min n st.length).toNat Tryz.underlying9 rfl (bndN _) (bndS (min n st.length).toNat _ rfl (by first | rfl | (simp; omega) | omega)) (by first | omega | (simp; omega)) (by first | omega | (simp; omega)) rfl ?_
          rw [List.drop_zero]
          refine wl_assign rfl rfl ?_
          refine wl_assign rfl rfl ?_
          refine wl_nil ?_
          refine qs_seq ?_
          refine wc_sub (L' := [(7, _), (6, _)]) (.cons rfl (.cons rfl .nil)) ?_
          refine wc_ret ?_
          refine fin2 (.inr rfl) rfl rfl rfl ?_
          have hr := read_line (n := n) (by assumption) hpe hi hia (by assumption) hxt
          rw [putS_twice, hst] at hS17
          exact ⟨_, rfl, by rw [hr.1]; first | done | rfl | (rw [hst]), by rw [hr.2]; exact refL_up (by omega) (hS17.pick [0, 3] rfl)⟩
      · skip
        refine wc_skip ?_
        refine qs_seq ?_
        refine wc_seq ?_
        refine wc_region ?_
        refine wl_move rfl rfl ?_
        have hC18 := hS4.split [0] [true, false] rfl; dsimp only [selF, pickA, nthA, List.cons_append, List.nil_append] at hC18
        refine wl_call cal_16 rfl (lGet hC18 (by omega) kPart) rfl ?_
        rintro e w18 ⟨_, rfl, rfl, hS18⟩; refine ⟨_, rfl, ?_⟩
        replace hS18 := hS18.join rfl; dsimp only [List.dropLast, List.cons_append, List.nil_append] at hS18; clear hC18
        clear hS4
        obtain ⟨st, hst⟩ : ∃ st, st = W.cells kPart := ⟨_, rfl⟩
        rw [← hst]
        have hpl := hB kPart
        rw [← hst] at hpl
        refine wl_assign rfl rfl ?_
        refine wl_nil ?_
        refine qs_seq ?_
        refine wc_sub (L' := [(10, _), (7, _), (6, _), (0, _), (2, _)]) (.cons rfl (.cons rfl (.cons rfl (.cons rfl (.cons rfl .nil))))) ?_
        refine wc_seq ?_
        refine wc_region ?_
        refine wl_move rfl rfl ?_
        refine wl_move rfl rfl ?_
        refine wl_lenS Tryz.underlying9 rfl rfl ?_
        refine wl_minI rfl rfl rfl ?_
        refine wl_assign rfl rfl ?_
        refine wl_nil ?_
        refine qs_seq ?_
        refine wc_seq ?_
        refine wc_region ?_
        refine wl_move rfl rfl ?_
        refine wl_move rfl rfl ?_
        refine wl_move rfl rfl ?_
        refine wl_sliceS (min n st.length).toNat st.length Tryz.underlying9 rfl (bndS (min n st.length).toNat _ rfl (by first | rfl | (simp; omega) | omega)) (bndN _) (by first | omega | (simp; omega)) (by first | omega | (simp; omega)) rfl ?_
        rw [List.take_length]
        have hC19 := hS18.split [0] [true, false] rfl; dsimp only [selF, pickA, nthA, List.cons_append, List.nil_append] at hC19
        refine wl_call cal_38 rfl (lPut hC19 (by omega) kPart (st.drop (min n st.length).toNat)) rfl ?_
        rintro e w19 ⟨_, rfl, rfl, hS19⟩; refine ⟨_, rfl, ?_⟩
        replace hS19 := hS19.join rfl; dsimp only [List.dropLast, List.cons_append, List.nil_append] at hS19; clear hC19
        clear hS18
        refine wl_nil ?_
        refine qs_seq ?_
        refine wc_sub (L' := [(2, _), (10, _), (7, _), (6, _)]) (.cons rfl (.cons rfl (.cons rfl (.cons rfl .nil)))) ?_
        refine wc_seq ?_
        refine wc_region ?_
        refine wl_move rfl rfl ?_
        refine wl_move rfl rfl ?_
        refine wl_sliceS 0 (min n st.length).toNat Tryz.underlying9 rfl (bndN _) (bndS (min n st.length).toNat _ rfl (by first | rfl | (simp; omega) | omega)) (by first | omega | (simp; omega)) (by first | omega | (simp; omega)) rfl ?_
        rw [List.drop_zero]
        refine wl_assign rfl rfl ?_
        refine wl_assign rfl rfl ?_
        refine wl_nil ?_
        refine qs_seq ?_
        refine wc_ret ?_
        refine fin2 (.inr rfl) rfl rfl rfl ?_
        have hr := read_part (now := now) (n := n) (by assumption) (by assumption)
        rw [hst] at hS19
        exact ⟨_, rfl, by rw [hr.1]; first | done | rfl | (rw [hst]), by rw [hr.2]; exact refL_up (by omega) (hS19.pick [0, 1] rfl)⟩

theorem ctl_ok {W : WS} {now : Int} (h : ctlW W now = true) : ∃ i, dueI W now = some i ∧ nextW W kCtl true = some i := by
  unfold ctlW at h
  cases hq : dueI W now with
  | none => rw [hq] at h; cases h
  | some i => exact ⟨i, rfl, (due_next hq).1⟩
theorem ctl_no' {W : WS} {now : Int} (h : ctlW W now = false) : dueI W now = none := by
  unfold ctlW at h
  cases hq : dueI W now with
  | none => rfl
  | some i => rw [hq] at h; cases h
set_option maxRecDepth 100000 in
theorem qDue_sp {w : World} {F : Th} {q m : Nat} {W : WS} (hS : Sat w [refL q W m, F]) (hm : m ≤ 800) (hB : TB W) (now : Int) :
    Calls Tryz.prog 31 #[ptrV q 0, intV now] w (Ret fun v w' => v = .tuple #[.agg #[intV (dueD W now).a, intV (dueD W now).k, strV (dueD W now).t], .bool (dueI W now).isSome] ∧ Sat w' [refL q (dueW W now) (m + 1), F]) := by
  refine calls_enter Tryz.func31 rfl Tryz.ntmps31 rfl ?_
  refine wc_seq ?_
  refine wc_region ?_
  refine wl_alloc hS zr_49 rfl rfl ?_
  intro b1 w1 hS1
  refine wl_assign rfl rfl ?_
  refine wl_nil ?_
  refine qs_seq ?_
  refine wc_seq ?_
  refine wc_seq ?_
  refine wc_region ?_
  refine wl_move rfl rfl ?_
  refine wl_move rfl rfl ?_
  have hC2 := hS1.split [1] [false, true, false] rfl; dsimp only [selF, pickA, nthA, List.cons_append, List.nil_append] at hC2
  refine wl_call cal_34 rfl (qControl_sp hC2 (by omega) hB now) rfl ?_
  rintro e w2 ⟨_, rfl, rfl, hS2⟩; refine ⟨_, rfl, ?_⟩
  replace hS2 := hS2.join rfl; dsimp only [List.dropLast, List.cons_append, List.nil_append] at hS2; clear hC2
  clear hS1
  refine wl_not rfl rfl ?_
  refine wl_nil ?_
  refine qs_seq ?_
  refine wc_cond rfl (fun h3 => ?_) (fun h3 => ?_)
  · skip
    have hd := ctl_no' (by simpa using h3 : ctlW W now = false)
    refine wc_seq ?_
    refine wc_region ?_
    refine wl_buildS rfl pl_49_ asz_49 zr_49 rfl rfl ?_
    first | (refine wl_storeA hS2 rfl rfl sz_49 rfl (by first | rfl | (simp [allOne, Value.oneCell']; done) | assumption | exact hone) (i := 1) rfl (by first | decide | exact Nat.le_of_ble_eq_true rfl | (simp; done) | omega) ?_)
    intro w4 hS5; dsimp only [List.set] at hS5
    clear hS2
    refine wl_assign rfl rfl ?_
    refine wl_nil ?_
    refine qs_seq ?_
    refine wc_ret ?_
    refine qs_then_ret ?_
    refine finR2 (.inr rfl) rfl (resCA rfl ag_49 sz_49 (by first | exact hS5.blk 1 rfl) (by first | decide | exact Nat.le_of_ble_eq_true rfl | (simp; done) | omega) rfl) (resT rfl) ?_
    exact ⟨_, rfl, by unfold dueD; rw [hd]; rfl, by unfold dueW; rw [hd]; exact refL_up (by omega) (hS5.pick [0, 2] rfl)⟩
  · skip
    obtain ⟨i, hd, hi⟩ := ctl_ok (by simpa using h3 : ctlW W now = true)
    obtain ⟨hi1, hi2⟩ := next_ok hi
    refine wc_skip ?_
    refine qs_seq ?_
    refine wc_seq ?_
    refine wc_region ?_
    refine wl_move rfl rfl ?_
    have hC6 := hS2.split [0] [true, false, false] rfl; dsimp only [selF, pickA, nthA, List.cons_append, List.nil_append] at hC6
    refine wl_call cal_61 rfl (qNext_sp hC6 (by omega) (hB _) kCtl (hB _) true) rfl ?_
    rintro e w6 ⟨_, rfl, rfl, hS6⟩; refine ⟨_, rfl, ?_⟩
    replace hS6 := hS6.join rfl; dsimp only [List.dropLast, List.cons_append, List.nil_append] at hS6; clear hC6
    clear hS2
    refine wl_assign rfl rfl ?_
    refine wl_nil ?_
    refine qs_seq ?_
    refine wc_sub (L' := [(6, _), (5, _), (4, _), (0, _)]) (.cons rfl (.cons rfl (.cons rfl (.cons rfl .nil)))) ?_
    refine wc_seq ?_
    rw [hi]
    dsimp only [nxP]
    refine wc_region ?_
    refine wl_move rfl rfl ?_
    refine wl_move rfl rfl ?_
    refine wl_add rfl rfl (by omega) (by omega) rfl ?_
    have hC7 := hS6.split [] [false, false, false] rfl; dsimp only [selF, pickA, nthA, List.cons_append, List.nil_append] at hC7
    refine wl_call cal_62 rfl (r1Int_sp hC7 ((i : Int) + 1) (by unfold inI; omega)) rfl ?_
    rintro e w7 ⟨_, rfl, rfl, hS7⟩; refine ⟨_, rfl, ?_⟩
    replace hS7 := hS7.join rfl; dsimp only [List.dropLast, List.cons_append, List.nil_append] at hS7; clear hC7
    clear hS6
    have hC8 := hS7.split [0] [true, false, false] rfl; dsimp only [selF, pickA, nthA, List.cons_append, List.nil_append] at hC8
    refine wl_call cal_38 rfl (lPut hC8 (by omega) kCtl (encN ((i : Int) + 1))) rfl ?_
    rintro e w8 ⟨_, rfl, rfl, hS8⟩; refine ⟨_, rfl, ?_⟩
    replace hS8 := hS8.join rfl; dsimp only [List.dropLast, List.cons_append, List.nil_append] at hS8; clear hC8
    clear hS7
    refine wl_nil ?_
    refine qs_seq ?_
    refine wc_seq ?_
    have hi4 : (itemsW (putS W kCtl (encN ((i : Int) + 1))))[i]? = some (ix (itemsW W) i) := by unfold itemsW; rw [putS_ne keys_ne.2.1]; exact hi2
    refine wc_region ?_
    refine wl_move rfl rfl ?_
    have hC9 := hS8.split [0] [true, false, false] rfl; dsimp only [selF, pickA, nthA, List.cons_append, List.nil_append] at hC9
    refine wl_call cal_13 rfl (qItems_sp hC9 (by omega) (TB.put (k := kCtl) (v := encN ((i : Int) + 1)) hB (by have := encN1_len hi1; omega) _)) rfl ?_
    rintro e w9 ⟨_, rfl, hS9⟩; refine ⟨_, rfl, ?_⟩
    replace hS9 := hS9.join rfl; dsimp only [List.dropLast, List.cons_append, List.nil_append] at hS9; clear hC9
    clear hS8
    refine wl_move rfl rfl ?_
    refine wl_maxI rfl rfl rfl ?_
    refine wl_rowIdx itC 0 i hS9 rfl rfl rfl (by first | rfl | omega) hi4 es_34 rfl ?_
    intro bx10 capx10 hvx10
    refine wl_rowLoadA 0 i hS9 rfl hvx10 rfl hi4 ag_49 sz_49 rfl rfl ?_
    first | (refine wl_storeA hS9 rfl rfl sz_49 rfl (by first | rfl | (simp [allOne, Value.oneCell']; done) | assumption | exact hone) (i := 2) rfl (by first | decide | exact Nat.le_of_ble_eq_true rfl | (simp; done) | omega) ?_)
    intro w11 hS12; dsimp only [List.set] at hS12
    clear hS9
    refine wl_assign rfl rfl ?_
    refine wl_nil ?_
    refine qs_seq ?_
    refine wc_sub (L' := [(5, _), (4, _)]) (.cons rfl (.cons rfl .nil)) ?_
    refine wc_ret ?_
    refine finR2 (.inr rfl) rfl (resCA rfl ag_49 sz_49 (by first | exact hS12.blk 2 rfl) (by first | decide | exact Nat.le_of_ble_eq_true rfl | (simp; done) | omega) rfl) (resT rfl) ?_
    exact ⟨_, rfl, by unfold dueD; rw [hd]; rfl, by unfold dueW; rw [hd]; exact refL_up (by omega) (hS12.pick [1, 3] rfl)⟩

set_option maxRecDepth 100000 in
theorem qNextAt_sp {w : World} {F : Th} {q m : Nat} {W : WS} (hS : Sat w [refL q W m, F]) (hm : m ≤ 800) (hB : TB W) (now : Int) :
    Calls Tryz.prog 32 #[ptrV q 0, intV now] w (Ret fun v w' => v = .tuple #[intV ((nextAtF (itemsW W) now).getD 0), .bool (nextAtF (itemsW W) now).isSome] ∧ Sat w' [refL q W m, F]) := by
  refine calls_enter Tryz.func32 rfl Tryz.ntmps32 rfl ?_
  have hil := items_len W
  refine wc_seq ?_
  refine wc_region ?_
  refine wl_assign rfl rfl ?_
  refine wl_assign rfl rfl ?_
  refine wl_nil ?_
  refine qs_seq ?_
  refine wc_seq ?_
  refine wc_region ?_
  refine wl_move rfl rfl ?_
  have hC1 := hS.split [0] [true, false] rfl; dsimp only [selF, pickA, nthA, List.cons_append, List.nil_append] at hC1
  refine wl_call cal_13 rfl (qItems_sp hC1 (by omega) (hB _)) rfl ?_
  rintro e w1 ⟨_, rfl, hS1⟩; refine ⟨_, rfl, ?_⟩
  replace hS1 := hS1.join rfl; dsimp only [List.dropLast, List.cons_append, List.nil_append] at hS1; clear hC1
  refine wl_assign rfl rfl ?_
  refine wl_nil ?_
  refine qs_seq ?_
  refine wc_seq ?_
  refine wc_seq ?_
  refine wc_region ?_
  refine wl_assign rfl rfl ?_
  refine wl_nil ?_
  refine qs_seq ?_
  refine wc_block ?_
  refine wc_loop (fun K0 E0 W0 => ∃ (i : Nat) (lv : Value), K0 = 101 - i ∧ E0 = [(1, intV now), (6, lv), (7, intV (i : Int))] ∧ Sat W0 [rowT itC lv (itemsW W), refL q W m, F] ∧ (i ≤ (itemsW W).length) ∧ (∀ j x, j < i → (itemsW W)[j]? = some x → ¬ now < x.a)) (L0 := [(1, _), (6, _), (7, _)]) (101 - 0) (.cons rfl (.cons rfl (.cons rfl .nil))) ⟨0, _, rfl, rfl, hS1.pick [0, 1, 2] rfl, by omega, fun j x hj => absurd hj (by omega)⟩ ?_
  rintro _ _ w2 ⟨i, lv, rfl, rfl, hS2, hi, hno⟩
  refine wc_seq ?_
  refine wc_seq ?_
  refine wc_region ?_
  refine wl_move rfl rfl ?_
  refine wl_move rfl rfl ?_
  first | refine wl_lenL Tryz.underlying34 rfl rfl ?_ | refine wl_lenO 0 hS2 Tryz.underlying34 rfl rfl rfl ?_
  refine wl_lss rfl rfl rfl ?_
  refine wl_nil ?_
  refine qs_seq ?_
  refine wc_condD rfl (fun h3 => ?_) (fun h3 => ?_)
  · skip
    obtain ⟨x, hx⟩ : ∃ x, (itemsW W)[i]? = some x := ⟨_, List.getElem?_eq_getElem (by omega)⟩
    refine wc_skip ?_
    refine qs_seq ?_
    refine wc_seq ?_
    refine wc_block ?_
    refine wc_seq ?_
    refine wc_region ?_
    refine wl_move rfl rfl ?_
    refine wl_move rfl rfl ?_
    refine wl_rowIdx itC 0 i hS2 rfl rfl rfl (by first | rfl | omega) hx es_34 rfl ?_
    intro bx4 capx4 hvx4
    refine wl_fieldAddr rfl fo_49_0 rfl ?_
    refine wl_rowLoad 0 i 0 hS2 rfl hvx4 rfl rfl hx ag_3 rfl rfl ?_
    refine wl_move rfl rfl ?_
    refine wl_gtr rfl rfl rfl ?_
    refine wl_nil ?_
    refine qs_seq ?_
    refine wc_sub (L' := [(22, _), (1, _), (6, _), (7, _)]) (.cons rfl (.cons rfl (.cons rfl (.cons rfl .nil)))) ?_
    refine wc_condD rfl (fun h5 => ?_) (fun h5 => ?_)
    · skip
      refine wc_seq ?_
      refine wc_region ?_
      refine wl_move rfl rfl ?_
      refine wl_move rfl rfl ?_
      refine wl_rowIdx itC 0 i hS2 rfl rfl rfl (by first | rfl | omega) hx es_34 rfl ?_
      intro bx6 capx6 hvx6
      refine wl_fieldAddr rfl fo_49_0 rfl ?_
      refine wl_rowLoad 0 i 0 hS2 rfl hvx6 rfl rfl hx ag_3 rfl rfl ?_
      refine wl_assign rfl rfl ?_
      refine wl_assign rfl rfl ?_
      refine wl_nil ?_
      refine qs_seq ?_
      refine wc_sub (L' := [(5, _), (4, _), (1, _), (6, _), (7, _)]) (.cons rfl (.cons rfl (.cons rfl (.cons rfl (.cons rfl .nil))))) ?_
      refine wc_ret ?_
      refine qs_block_ret ?_
      refine qs_then_ret ?_
      refine qs_then_ret ?_
      refine qs_block_ret ?_
      refine qs_then_ret ?_
      refine fin2 (.inr rfl) rfl rfl rfl ?_
      exact ⟨_, rfl, by rw [(nextAtF_step hno).1 x hx (by omega)]; rfl, hS2.pick [1, 2] rfl⟩
    · skip
      refine wc_skip ?_
      refine qs_block_normal ?_
      refine qs_seq ?_
      refine wc_region ?_
      refine wl_move rfl rfl ?_
      refine wl_add rfl rfl (by omega) (by omega) rfl ?_
      refine wl_assign rfl rfl ?_
      refine wl_nil ?_
      exact qs_round (L1 := [(1, _), (6, _), (7, intV ((i + 1 : Nat) : Int))]) (.cons rfl (.cons rfl (.cons rfl .nil))) (k1 := 101 - (i + 1)) (by omega) ⟨i + 1, _, rfl, rfl, hS2.pick [0, 1, 2] rfl, by omega, fun j y hj hy => by by_cases e : j = i; (subst e; rw [hx] at hy; cases hy; omega); exact hno j y (by omega) hy⟩
  · skip
    refine wc_exit ?_
    refine qs_then_exit ?_
    refine qs_then_exit ?_
    refine qs_block_exit ?_
    refine qs_seq ?_
    refine wc_seq ?_
    refine wc_region ?_
    refine wl_assign rfl rfl ?_
    refine wl_assign rfl rfl ?_
    refine wl_nil ?_
    refine qs_seq ?_
    refine wc_ret ?_
    refine fin2 (.inr rfl) rfl rfl rfl ?_
    exact ⟨_, rfl, by rw [(nextAtF_step hno).2 (by omega)]; rfl, hS2.pick [1, 2] rfl⟩

theorem qFg_sp {w : World} {F : Th} {q m : Nat} {W : WS} (hS : Sat w [refL q W m, F]) (hm : m ≤ 800) (hB : TB W) :
    Calls Tryz.prog 10 #[ptrV q 0] w (Ret fun v w' => v = intV (fgW W) ∧ Sat w' [refL q W m, F]) := by
  refine calls_enter Tryz.func10 rfl Tryz.ntmps10 rfl ?_
  refine wc_seq ?_
  refine wc_region ?_
  refine wl_assign rfl rfl ?_
  refine wl_nil ?_
  refine qs_seq ?_
  refine wc_seq ?_
  refine wc_region ?_
  refine wl_move rfl rfl ?_
  have hC1 := hS.split [0] [true, false] rfl; dsimp only [selF, pickA, nthA, List.cons_append, List.nil_append] at hC1
  refine wl_call cal_41 rfl (qNumber_sp hC1 (by omega) kFg (-9223372036854775808) (hB _)) rfl ?_
  rintro e w1 ⟨_, rfl, rfl, hS1⟩; refine ⟨_, rfl, ?_⟩
  replace hS1 := hS1.join rfl; dsimp only [List.dropLast, List.cons_append, List.nil_append] at hS1; clear hC1
  refine wl_assign rfl rfl ?_
  refine wl_nil ?_
  refine qs_seq ?_
  refine wc_ret ?_
  refine fin1 (.inr rfl) rfl rfl ?_
  exact ⟨_, rfl, by rw [numL_min]; rfl, hS1.pick [0, 1] rfl⟩

theorem qSetFg_sp {w : World} {F : Th} {q m : Nat} {W : WS} (hS : Sat w [refL q W m, F]) (hm : m ≤ 800) (hB : TB W) (g : Int) (hg : inI g) :
    Calls Tryz.prog 36 #[ptrV q 0, intV g] w (Ret fun v w' => v = .tuple #[] ∧ Sat w' [refL q (setFgW W g) (m + 1), F]) := by
  refine calls_enter Tryz.func36 rfl Tryz.ntmps36 rfl ?_
  refine wc_seq ?_
  refine wc_region ?_
  refine wl_move rfl rfl ?_
  refine wl_eql rfl rfl rfl ?_
  refine wl_nil ?_
  refine qs_seq ?_
  refine wc_condD rfl (fun h1 => ?_) (fun h1 => ?_)
  · skip
    refine wc_region ?_
    refine wl_move rfl rfl ?_
    have hC2 := hS.split [0] [true, false] rfl; dsimp only [selF, pickA, nthA, List.cons_append, List.nil_append] at hC2
    refine wl_call cal_38 rfl (lPut hC2 (by omega) kFg []) rfl ?_
    rintro e w2 ⟨_, rfl, rfl, hS2⟩; refine ⟨_, rfl, ?_⟩
    replace hS2 := hS2.join rfl; dsimp only [List.dropLast, List.cons_append, List.nil_append] at hS2; clear hC2
    refine wl_nil ?_
    refine fin0 (.inl rfl) rfl ?_
    exact ⟨_, rfl, rfl, by unfold setFgW; rw [if_pos (by assumption)]; exact refL_up (by omega) (hS2.pick [0, 1] rfl)⟩
  · skip
    refine wc_region ?_
    refine wl_move rfl rfl ?_
    refine wl_move rfl rfl ?_
    have hC3 := hS.split [] [false, false] rfl; dsimp only [selF, pickA, nthA, List.cons_append, List.nil_append] at hC3
    refine wl_call cal_62 rfl (r1Int_sp hC3 g hg) rfl ?_
    rintro e w3 ⟨_, rfl, rfl, hS3⟩; refine ⟨_, rfl, ?_⟩
    replace hS3 := hS3.join rfl; dsimp only [List.dropLast, List.cons_append, List.nil_append] at hS3; clear hC3
    have hC4 := hS3.split [0] [true, false] rfl; dsimp only [selF, pickA, nthA, List.cons_append, List.nil_append] at hC4
    refine wl_call cal_38 rfl (lPut hC4 (by omega) kFg (encN g)) rfl ?_
    rintro e w4 ⟨_, rfl, rfl, hS4⟩; refine ⟨_, rfl, ?_⟩
    replace hS4 := hS4.join rfl; dsimp only [List.dropLast, List.cons_append, List.nil_append] at hS4; clear hC4
    clear hS3
    refine wl_nil ?_
    refine fin0 (.inl rfl) rfl ?_
    exact ⟨_, rfl, rfl, by unfold setFgW; rw [if_neg (by assumption)]; exact refL_up (by omega) (hS4.pick [0, 1] rfl)⟩

set_option maxRecDepth 100000 in
set_option maxHeartbeats 1000000 in
theorem qdo_sp {w : World} {q m : Nat} {W : WS} {F : Th} (hS : Sat w [refL q W m, F]) (hm : m ≤ 700) (hB : TB W) (o : OpT) (hs : o.s.length ≤ 300) (hln : o.l.length ≤ 1000) (hn : inI o.n) (hlg : (W.logs kOut).length ≤ 1000000) (hLo : Ent F (RdL itC o.lv o.l)) :
    Calls Tryz.prog 8 #[ptrV q 0, .agg #[intV o.k, intV o.now, intV o.n, strV o.s, o.lv]] w (Ret fun v w' => v = .tuple #[strV (doV W o).1, intV (doV W o).2.1, intV (doV W o).2.2] ∧ Sat w' [refL q (doW W o) (m + 4), F]) := by
  refine calls_enter Tryz.func8 rfl Tryz.ntmps8 rfl ?_
  refine wc_seq ?_
  refine wc_region ?_
  refine wl_box hS rfl rfl rfl ?_
  intro b1 w1 hS1
  refine wl_assign rfl rfl ?_
  refine wl_assign rfl rfl ?_
  refine wl_assign rfl rfl ?_
  refine wl_nil ?_
  refine qs_seq ?_
  refine wc_seq ?_
  refine wc_seq ?_
  refine wc_region ?_
  refine wl_fieldAddr rfl fo_36_0 rfl ?_
  refine wl_load rfl ag_3 (by first | assumption | exact hS1.cell 0 rfl rfl) rfl ?_
  refine wl_mask 4 rfl rfl rfl rfl (q := 16) rfl rfl ?_
  refine wl_nil ?_
  refine qs_seq ?_
  refine wc_block ?_
  refine wc_seq ?_
  refine wc_seq ?_
  refine wc_region ?_
  refine wl_eql rfl rfl rfl ?_
  refine wl_assign rfl rfl ?_
  refine wl_nil ?_
  refine qs_seq ?_
  refine wc_sub (L' := [(16, _), (15, _), (6, _), (5, _), (4, _), (3, _), (0, _)]) (.cons rfl (.cons rfl (.cons rfl (.cons rfl (.cons rfl (.cons rfl (.cons rfl .nil))))))) ?_
  refine wc_condD rfl (fun h2 => ?_) (fun h2 => ?_)
  · skip
    refine wc_skip ?_
    refine qs_seq ?_
    refine wc_condKT rfl (decide_eq_true h2) ?_
    refine wc_seq ?_
    refine wc_region ?_
    refine wl_move rfl rfl ?_
    refine wl_fieldAddr rfl fo_36_1 rfl ?_
    refine wl_load rfl ag_3 (by first | assumption | exact hS1.cell 0 rfl rfl) rfl ?_
    have hC3 := hS1.split [1] [false, true, false] rfl; dsimp only [selF, pickA, nthA, List.cons_append, List.nil_append] at hC3
    refine wl_call cal_31 rfl (qDue_sp hC3 (by omega) hB o.now) rfl ?_
    rintro e w3 ⟨_, rfl, rfl, hS3⟩; refine ⟨_, rfl, ?_⟩
    replace hS3 := hS3.join rfl; dsimp only [List.dropLast, List.cons_append, List.nil_append] at hS3; clear hC3
    clear hS1
    have hdd := dueD_ok W o.now
    refine wl_move rfl rfl ?_
    refine wl_extract rfl rfl rfl ?_
    refine wl_extract rfl rfl rfl ?_
    refine wl_alloc hS3 zr_49 rfl rfl ?_
    intro b4 w4 hS4
    clear hS3
    first | (refine wl_storeA hS4 rfl rfl sz_49 rfl (by first | rfl | (simp [allOne, Value.oneCell']; done) | assumption | exact hone) (i := 0) rfl (by first | decide | exact Nat.le_of_ble_eq_true rfl | (simp; done) | omega) ?_) | (refine wl_storeA hS4 rfl rfl sz_49 rfl (by first | rfl | (simp [allOne, Value.oneCell']; done) | assumption | exact hone) (i := 2) rfl (by first | decide | exact Nat.le_of_ble_eq_true rfl | (simp; done) | omega) ?_)
    intro w5 hS6; dsimp only [List.set] at hS6
    clear hS4
    refine wl_assign rfl rfl ?_
    refine wl_nil ?_
    refine qs_seq ?_
    refine wc_sub (L' := [(8, _), (7, _), (6, _), (5, _), (4, _), (3, _), (0, _)]) (.cons rfl (.cons rfl (.cons rfl (.cons rfl (.cons rfl (.cons rfl (.cons rfl .nil))))))) ?_
    refine wc_seq ?_
    have hS7 := hS6.drew
    refine wc_draw [0, 1, 2, 3, 4, 5, 6, 7, 8, 9, 10, 11, 12] [9] mix (by kernel_rfl) ?_
    refine vc_p rfl rfl rfl (fun _ => (ev_fieldAddr rfl fo_49_2)) ?_
    refine vc_q rfl rfl rfl (ev_load rfl ag_9 (by first | assumption | exact hS7.cell 0 rfl rfl | exact hS7.cell 2 rfl rfl)) ?_
    refine vc_p rfl rfl rfl (fun _ => (ev_fieldAddr rfl fo_49_0)) ?_
    refine vc_q rfl rfl rfl (ev_load rfl ag_3 (by first | assumption | exact hS7.cell 0 rfl rfl | exact hS7.cell 2 rfl rfl)) ?_
    refine vc_p rfl rfl rfl (fun _ => (ev_mul rfl rfl (by omega) (by omega))) ?_
    refine vc_p rfl rfl rfl (fun _ => (ev_fieldAddr rfl fo_49_1)) ?_
    refine vc_q rfl rfl rfl (ev_load rfl ag_3 (by first | assumption | exact hS7.cell 0 rfl rfl | exact hS7.cell 2 rfl rfl)) ?_
    refine vc_p rfl rfl rfl (fun _ => (ev_add rfl rfl (by omega) (by omega))) ?_
    refine vc_p rfl rfl rfl (fun _ => (ev_move rfl)) ?_
    refine vc_s rfl rfl rfl rfl rfl rfl ?_
    have hC8 := hS7.split [] [false, false, false, false] rfl; dsimp only [selF, pickA, nthA, List.cons_append, List.nil_append] at hC8
    refine wl_call cal_25 rfl (truth_sp hC8 (dueI W o.now).isSome) rfl ?_
    rintro e w8 ⟨_, rfl, rfl, hS8⟩; refine ⟨_, rfl, ?_⟩
    replace hS8 := hS8.join rfl; dsimp only [List.dropLast, List.cons_append, List.nil_append] at hS8; clear hC8
    clear hS7
    refine vc_e (.cons (.inl ⟨rfl, (ev_load rfl ag_3 (by first | assumption | exact hS8.cell 0 rfl rfl | exact hS8.cell 2 rfl rfl))⟩) (.cons (.inl ⟨rfl, (ev_load rfl ag_3 (by first | assumption | exact hS8.cell 0 rfl rfl | exact hS8.cell 2 rfl rfl))⟩) (.cons (.inl ⟨rfl, (ev_load rfl ag_9 (by first | assumption | exact hS8.cell 0 rfl rfl | exact hS8.cell 2 rfl rfl))⟩) .nil))) ?_
    refine vc_p rfl rfl rfl (fun _ => (ev_assign rfl)) ?_
    refine vc_p rfl rfl rfl (fun _ => (ev_assign rfl)) ?_
    refine vc_p rfl rfl rfl (fun _ => (ev_assign rfl)) ?_
    refine VC.nil ?_
    refine qs_seq ?_
    refine wc_sub (L' := [(6, _), (5, _), (4, _), (3, _), (0, _)]) (.cons rfl (.cons rfl (.cons rfl (.cons rfl (.cons rfl .nil))))) ?_
    refine wc_ret ?_
    refine qs_block_ret ?_
    refine qs_then_ret ?_
    refine fin3 (.inr rfl) rfl rfl rfl rfl ?_
    exact ⟨_, rfl, by unfold doV; rw [if_pos (by first | assumption | omega)], by unfold doW; rw [if_pos (by first | assumption | omega)]; exact refL_up (by omega) (hS8.pick [1, 3] rfl)⟩
  · skip
    refine wc_region ?_
    refine wl_eql rfl rfl rfl ?_
    refine wl_assign rfl rfl ?_
    refine wl_nil ?_
    refine qs_seq ?_
    refine wc_condD rfl (fun h9 => ?_) (fun h9 => ?_)
    · skip
      refine wc_seq ?_
      refine wc_region ?_
      refine wl_move rfl rfl ?_
      refine wl_fieldAddr rfl fo_36_1 rfl ?_
      refine wl_load rfl ag_3 (by first | assumption | exact hS1.cell 0 rfl rfl) rfl ?_
      have hC10 := hS1.split [1] [false, true, false] rfl; dsimp only [selF, pickA, nthA, List.cons_append, List.nil_append] at hC10
      refine wl_call cal_31 rfl (qDue_sp hC10 (by omega) hB o.now) rfl ?_
      rintro e w10 ⟨_, rfl, rfl, hS10⟩; refine ⟨_, rfl, ?_⟩
      replace hS10 := hS10.join rfl; dsimp only [List.dropLast, List.cons_append, List.nil_append] at hS10; clear hC10
      clear hS1
      have hdd := dueD_ok W o.now
      refine wl_move rfl rfl ?_
      refine wl_extract rfl rfl rfl ?_
      refine wl_extract rfl rfl rfl ?_
      refine wl_alloc hS10 zr_49 rfl rfl ?_
      intro b11 w11 hS11
      clear hS10
      first | (refine wl_storeA hS11 rfl rfl sz_49 rfl (by first | rfl | (simp [allOne, Value.oneCell']; done) | assumption | exact hone) (i := 0) rfl (by first | decide | exact Nat.le_of_ble_eq_true rfl | (simp; done) | omega) ?_) | (refine wl_storeA hS11 rfl rfl sz_49 rfl (by first | rfl | (simp [allOne, Value.oneCell']; done) | assumption | exact hone) (i := 2) rfl (by first | decide | exact Nat.le_of_ble_eq_true rfl | (simp; done) | omega) ?_)
      intro w12 hS13; dsimp only [List.set] at hS13
      clear hS11
      refine wl_assign rfl rfl ?_
      refine wl_nil ?_
      refine qs_seq ?_
      refine wc_sub (L' := [(8, _), (7, _), (6, _), (5, _), (4, _), (3, _), (0, _)]) (.cons rfl (.cons rfl (.cons rfl (.cons rfl (.cons rfl (.cons rfl (.cons rfl .nil))))))) ?_
      refine wc_seq ?_
      have hS14 := hS13.drew
      refine wc_draw [0, 1, 2, 3, 4, 5, 6, 7, 8, 9, 10, 11, 12] [9] mix (by kernel_rfl) ?_
      refine vc_p rfl rfl rfl (fun _ => (ev_fieldAddr rfl fo_49_2)) ?_
      refine vc_q rfl rfl rfl (ev_load rfl ag_9 (by first | assumption | exact hS14.cell 0 rfl rfl | exact hS14.cell 2 rfl rfl)) ?_
      refine vc_p rfl rfl rfl (fun _ => (ev_fieldAddr rfl fo_49_0)) ?_
      refine vc_q rfl rfl rfl (ev_load rfl ag_3 (by first | assumption | exact hS14.cell 0 rfl rfl | exact hS14.cell 2 rfl rfl)) ?_
      refine vc_p rfl rfl rfl (fun _ => (ev_mul rfl rfl (by omega) (by omega))) ?_
      refine vc_p rfl rfl rfl (fun _ => (ev_fieldAddr rfl fo_49_1)) ?_
      refine vc_q rfl rfl rfl (ev_load rfl ag_3 (by first | assumption | exact hS14.cell 0 rfl rfl | exact hS14.cell 2 rfl rfl)) ?_
      refine vc_p rfl rfl rfl (fun _ => (ev_add rfl rfl (by omega) (by omega))) ?_
      refine vc_p rfl rfl rfl (fun _ => (ev_move rfl)) ?_
      refine vc_s rfl rfl rfl rfl rfl rfl ?_
      have hC15 := hS14.split [] [false, false, false, false] rfl; dsimp only [selF, pickA, nthA, List.cons_append, List.nil_append] at hC15
      refine wl_call cal_25 rfl (truth_sp hC15 (dueI W o.now).isSome) rfl ?_
      rintro e w15 ⟨_, rfl, rfl, hS15⟩; refine ⟨_, rfl, ?_⟩
      replace hS15 := hS15.join rfl; dsimp only [List.dropLast, List.cons_append, List.nil_append] at hS15; clear hC15
      clear hS14
      refine vc_e (.cons (.inl ⟨rfl, (ev_load rfl ag_3 (by first | assumption | exact hS15.cell 0 rfl rfl | exact hS15.cell 2 rfl rfl))⟩) (.cons (.inl ⟨rfl, (ev_load rfl ag_3 (by first | assumption | exact hS15.cell 0 rfl rfl | exact hS15.cell 2 rfl rfl))⟩) (.cons (.inl ⟨rfl, (ev_load rfl ag_9 (by first | assumption | exact hS15.cell 0 rfl rfl | exact hS15.cell 2 rfl rfl))⟩) .nil))) ?_
      refine vc_p rfl rfl rfl (fun _ => (ev_assign rfl)) ?_
      refine vc_p rfl rfl rfl (fun _ => (ev_assign rfl)) ?_
      refine vc_p rfl rfl rfl (fun _ => (ev_assign rfl)) ?_
      refine VC.nil ?_
      refine qs_seq ?_
      refine wc_sub (L' := [(6, _), (5, _), (4, _), (3, _), (0, _)]) (.cons rfl (.cons rfl (.cons rfl (.cons rfl (.cons rfl .nil))))) ?_
      refine wc_ret ?_
      refine qs_block_ret ?_
      refine qs_then_ret ?_
      refine fin3 (.inr rfl) rfl rfl rfl rfl ?_
      exact ⟨_, rfl, by unfold doV; rw [if_pos (by first | assumption | omega)], by unfold doW; rw [if_pos (by first | assumption | omega)]; exact refL_up (by omega) (hS15.pick [1, 3] rfl)⟩
    · skip
      refine wc_seq ?_
      refine wc_region ?_
      refine wl_eql rfl rfl rfl ?_
      refine wl_assign rfl rfl ?_
      refine wl_nil ?_
      refine qs_seq ?_
      refine wc_condD rfl (fun h16 => ?_) (fun h16 => ?_)
      · skip
        refine wc_seq ?_
        refine wc_region ?_
        refine wl_move rfl rfl ?_
        refine wl_fieldAddr rfl fo_36_1 rfl ?_
        refine wl_load rfl ag_3 (by first | assumption | exact hS1.cell 0 rfl rfl) rfl ?_
        have hC17 := hS1.split [1] [false, true, false] rfl; dsimp only [selF, pickA, nthA, List.cons_append, List.nil_append] at hC17
        refine wl_call cal_32 rfl (qNextAt_sp hC17 (by omega) hB o.now) rfl ?_
        rintro e w17 ⟨_, rfl, rfl, hS17⟩; refine ⟨_, rfl, ?_⟩
        replace hS17 := hS17.join rfl; dsimp only [List.dropLast, List.cons_append, List.nil_append] at hS17; clear hC17
        clear hS1
        refine wl_move rfl rfl ?_
        refine wl_extract rfl rfl rfl ?_
        refine wl_extract rfl rfl rfl ?_
        refine wl_assign rfl rfl ?_
        refine wl_assign rfl rfl ?_
        refine wl_nil ?_
        refine qs_seq ?_
        refine wc_sub (L' := [(10, _), (9, _), (6, _), (5, _), (4, _), (3, _), (0, _)]) (.cons rfl (.cons rfl (.cons rfl (.cons rfl (.cons rfl (.cons rfl (.cons rfl .nil))))))) ?_
        refine wc_seq ?_
        refine wc_region ?_
        refine wl_move rfl rfl ?_
        refine wl_move rfl rfl ?_
        have hC18 := hS17.split [] [false, false, false] rfl; dsimp only [selF, pickA, nthA, List.cons_append, List.nil_append] at hC18
        refine wl_call cal_25 rfl (truth_sp hC18 (nextAtF (itemsW W) o.now).isSome) rfl ?_
        rintro e w18 ⟨_, rfl, rfl, hS18⟩; refine ⟨_, rfl, ?_⟩
        replace hS18 := hS18.join rfl; dsimp only [List.dropLast, List.cons_append, List.nil_append] at hS18; clear hC18
        clear hS17
        refine wl_assign rfl rfl ?_
        refine wl_assign rfl rfl ?_
        refine wl_assign rfl rfl ?_
        refine wl_nil ?_
        refine qs_seq ?_
        refine wc_ret ?_
        refine qs_block_ret ?_
        refine qs_then_ret ?_
        refine fin3 (.inr rfl) rfl rfl rfl rfl ?_
        exact ⟨_, rfl, by unfold doV; rw [if_neg (by omega), if_pos (by first | assumption | omega)], by unfold doW; rw [if_neg (by omega), if_pos (by first | assumption | omega)]; exact refL_up (by omega) (hS18.pick [0, 2] rfl)⟩
      · skip
        refine wc_seq ?_
        refine wc_region ?_
        refine wl_eql rfl rfl rfl ?_
        refine wl_assign rfl rfl ?_
        refine wl_nil ?_
        refine qs_seq ?_
        refine wc_sub (L' := [(48, _), (15, _), (6, _), (5, _), (4, _), (3, _), (0, _)]) (.cons rfl (.cons rfl (.cons rfl (.cons rfl (.cons rfl (.cons rfl (.cons rfl .nil))))))) ?_
        refine wc_condD rfl (fun h19 => ?_) (fun h19 => ?_)
        · skip
          refine wc_seq ?_
          have hS20 := hS1.drew
          refine wc_draw [0, 1, 2, 5, 6, 7, 3, 4, 8, 9, 10, 11, 12] [3, 4, 8, 9] mix (by kernel_rfl) ?_
          refine vc_p rfl rfl rfl (fun _ => (ev_move rfl)) ?_
          refine vc_p rfl rfl rfl (fun _ => (ev_fieldAddr rfl fo_36_1)) ?_
          refine vc_q rfl rfl rfl (ev_load rfl ag_3 (by first | assumption | exact hS20.cell 0 rfl rfl)) ?_
          refine vc_p rfl rfl rfl (fun _ => (ev_move rfl)) ?_
          refine vc_p rfl rfl rfl (fun _ => (ev_fieldAddr rfl fo_36_1)) ?_
          refine vc_q rfl rfl rfl (ev_load rfl ag_3 (by first | assumption | exact hS20.cell 0 rfl rfl)) ?_
          refine vc_s rfl rfl rfl rfl rfl rfl ?_
          have hC21 := hS20.split [1] [false, true, false] rfl; dsimp only [selF, pickA, nthA, List.cons_append, List.nil_append] at hC21
          refine wl_call cal_33 rfl (qReady_sp hC21 (by omega) hB o.now) rfl ?_
          rintro e w21 ⟨_, rfl, rfl, hS21⟩; refine ⟨_, rfl, ?_⟩
          replace hS21 := hS21.join rfl; dsimp only [List.dropLast, List.cons_append, List.nil_append] at hS21; clear hC21
          clear hS20
          refine vc_e (.cons (.inl ⟨rfl, (ev_load rfl ag_3 (by first | assumption | exact hS21.cell 1 rfl rfl))⟩) (.skip (by kernel_rfl) .nil)) ?_
          refine vc_s rfl rfl rfl rfl rfl rfl ?_
          have hC22 := hS21.split [] [false, false, false] rfl; dsimp only [selF, pickA, nthA, List.cons_append, List.nil_append] at hC22
          refine wl_call cal_25 rfl (truth_sp hC22 (readyW W o.now)) rfl ?_
          rintro e w22 ⟨_, rfl, rfl, hS22⟩; refine ⟨_, rfl, ?_⟩
          replace hS22 := hS22.join rfl; dsimp only [List.dropLast, List.cons_append, List.nil_append] at hS22; clear hC22
          clear hS21
          refine vc_e (.cons (.inl ⟨rfl, (ev_load rfl ag_3 (by first | assumption | exact hS22.cell 1 rfl rfl))⟩) (.skip (by kernel_rfl) .nil)) ?_
          refine vc_s rfl rfl rfl rfl rfl rfl ?_
          have hC23 := hS22.split [0] [true, false, false] rfl; dsimp only [selF, pickA, nthA, List.cons_append, List.nil_append] at hC23
          refine wl_call cal_34 rfl (qControl_sp hC23 (by omega) hB o.now) rfl ?_
          rintro e w23 ⟨_, rfl, rfl, hS23⟩; refine ⟨_, rfl, ?_⟩
          replace hS23 := hS23.join rfl; dsimp only [List.dropLast, List.cons_append, List.nil_append] at hS23; clear hC23
          clear hS22
          refine vc_e (.skip (by kernel_rfl) (.skip (by kernel_rfl) .nil)) ?_
          refine vc_s rfl rfl rfl rfl rfl rfl ?_
          have hC24 := hS23.split [] [false, false, false] rfl; dsimp only [selF, pickA, nthA, List.cons_append, List.nil_append] at hC24
          refine wl_call cal_25 rfl (truth_sp hC24 (ctlW W o.now)) rfl ?_
          rintro e w24 ⟨_, rfl, rfl, hS24⟩; refine ⟨_, rfl, ?_⟩
          replace hS24 := hS24.join rfl; dsimp only [List.dropLast, List.cons_append, List.nil_append] at hS24; clear hC24
          clear hS23
          refine vc_e (.skip (by kernel_rfl) (.skip (by kernel_rfl) .nil)) ?_
          refine vc_p rfl rfl rfl (fun _ => (ev_assign rfl)) ?_
          refine vc_p rfl rfl rfl (fun _ => (ev_assign rfl)) ?_
          refine vc_p rfl rfl rfl (fun _ => (ev_assign rfl)) ?_
          refine VC.nil ?_
          refine qs_seq ?_
          refine wc_sub (L' := [(6, _), (5, _), (4, _), (3, _), (0, _)]) (.cons rfl (.cons rfl (.cons rfl (.cons rfl (.cons rfl .nil))))) ?_
          refine wc_ret ?_
          refine qs_block_ret ?_
          refine qs_then_ret ?_
          refine fin3 (.inr rfl) rfl rfl rfl rfl ?_
          exact ⟨_, rfl, by unfold doV; rw [if_neg (by omega), if_neg (by assumption), if_pos (by first | assumption | omega)], by unfold doW; rw [if_neg (by omega), if_neg (by assumption), if_pos (by first | assumption | omega)]; exact refL_up (by omega) (hS24.pick [0, 2] rfl)⟩
        · skip
          refine wc_seq ?_
          refine wc_region ?_
          refine wl_eql rfl rfl rfl ?_
          refine wl_assign rfl rfl ?_
          refine wl_nil ?_
          refine qs_seq ?_
          refine wc_condD rfl (fun h25 => ?_) (fun h25 => ?_)
          · skip
            refine wc_seq ?_
            refine wc_region ?_
            refine wl_move rfl rfl ?_
            refine wl_fieldAddr rfl fo_36_4 rfl ?_
            refine wl_load rfl ag_34 (by first | assumption | exact hS1.cell 0 rfl rfl) rfl ?_
            have hC26 := hS1.split [1] [false, true, false] rfl; dsimp only [selF, pickA, nthA, List.cons_append, List.nil_append] at hC26
            refine wl_call cal_35 rfl (qFill_sp hC26 (by omega) (hLo.starL 1 rfl) hln) rfl ?_
            rintro e w26 ⟨_, rfl, rfl, hS26⟩; refine ⟨_, rfl, ?_⟩
            replace hS26 := hS26.join rfl; dsimp only [List.dropLast, List.cons_append, List.nil_append] at hS26; clear hC26
            clear hS1
            refine wl_assign rfl rfl ?_
            refine wl_assign rfl rfl ?_
            refine wl_assign rfl rfl ?_
            refine wl_nil ?_
            refine qs_seq ?_
            refine wc_sub (L' := [(6, _), (5, _), (4, _), (3, _), (0, _)]) (.cons rfl (.cons rfl (.cons rfl (.cons rfl (.cons rfl .nil))))) ?_
            refine wc_ret ?_
            refine qs_block_ret ?_
            refine qs_then_ret ?_
            refine fin3 (.inr rfl) rfl rfl rfl rfl ?_
            exact ⟨_, rfl, by unfold doV; rw [if_neg (by omega), if_neg (by assumption), if_neg (by assumption), if_pos (by first | assumption | omega)], by unfold doW; rw [if_neg (by omega), if_neg (by assumption), if_neg (by assumption), if_pos (by first | assumption | omega)]; exact refL_up (by omega) (hS26.pick [0, 2] rfl)⟩
          · skip
            refine wc_seq ?_
            refine wc_region ?_
            refine wl_eql rfl rfl rfl ?_
            refine wl_assign rfl rfl ?_
            refine wl_nil ?_
            refine qs_seq ?_
            refine wc_sub (L' := [(66, _), (15, _), (6, _), (5, _), (4, _), (3, _), (0, _)]) (.cons rfl (.cons rfl (.cons rfl (.cons rfl (.cons rfl (.cons rfl (.cons rfl .nil))))))) ?_
            refine wc_condD rfl (fun h27 => ?_) (fun h27 => ?_)
            · skip
              refine wc_seq ?_
              refine wc_region ?_
              refine wl_move rfl rfl ?_
              refine wl_fieldAddr rfl fo_36_2 rfl ?_
              refine wl_load rfl ag_3 (by first | assumption | exact hS1.cell 0 rfl rfl) rfl ?_
              have hC28 := hS1.split [1] [false, true, false] rfl; dsimp only [selF, pickA, nthA, List.cons_append, List.nil_append] at hC28
              refine wl_call cal_36 rfl (qSetFg_sp hC28 (by omega) hB o.n hn) rfl ?_
              rintro e w28 ⟨_, rfl, rfl, hS28⟩; refine ⟨_, rfl, ?_⟩
              replace hS28 := hS28.join rfl; dsimp only [List.dropLast, List.cons_append, List.nil_append] at hS28; clear hC28
              clear hS1
              refine wl_nil ?_
              refine qs_seq ?_
              refine wc_sub (L' := [(6, _), (5, _), (4, _), (3, _), (0, _)]) (.cons rfl (.cons rfl (.cons rfl (.cons rfl (.cons rfl .nil))))) ?_
              refine wc_seq ?_
              refine wc_region ?_
              refine wl_assign rfl rfl ?_
              refine wl_assign rfl rfl ?_
              refine wl_assign rfl rfl ?_
              refine wl_nil ?_
              refine qs_seq ?_
              refine wc_ret ?_
              refine qs_block_ret ?_
              refine qs_then_ret ?_
              refine fin3 (.inr rfl) rfl rfl rfl rfl ?_
              exact ⟨_, rfl, by unfold doV; rw [if_neg (by omega), if_neg (by assumption), if_neg (by assumption), if_neg (by assumption), if_pos (by first | assumption | omega)], by unfold doW; rw [if_neg (by omega), if_neg (by assumption), if_neg (by assumption), if_neg (by assumption), if_pos (by first | assumption | omega)]; exact refL_up (by omega) (hS28.pick [0, 2] rfl)⟩
            · skip
              refine wc_seq ?_
              refine wc_region ?_
              refine wl_eql rfl rfl rfl ?_
              refine wl_assign rfl rfl ?_
              refine wl_nil ?_
              refine qs_seq ?_
              refine wc_condD rfl (fun h29 => ?_) (fun h29 => ?_)
              · skip
                refine wc_seq ?_
                refine wc_region ?_
                refine wl_move rfl rfl ?_
                refine wl_fieldAddr rfl fo_36_3 rfl ?_
                refine wl_load rfl ag_9 (by first | assumption | exact hS1.cell 0 rfl rfl) rfl ?_
                have hC30 := hS1.split [1] [false, true, false] rfl; dsimp only [selF, pickA, nthA, List.cons_append, List.nil_append] at hC30
                refine wl_call cal_37 rfl (lLog hC30 (by omega) kOut o.s (by omega) (by omega)) rfl ?_
                rintro e w30 ⟨_, rfl, rfl, hS30⟩; refine ⟨_, rfl, ?_⟩
                replace hS30 := hS30.join rfl; dsimp only [List.dropLast, List.cons_append, List.nil_append] at hS30; clear hC30
                clear hS1
                refine wl_nil ?_
                refine qs_seq ?_
                refine wc_sub (L' := [(6, _), (5, _), (4, _), (3, _), (0, _)]) (.cons rfl (.cons rfl (.cons rfl (.cons rfl (.cons rfl .nil))))) ?_
                refine wc_seq ?_
                refine wc_region ?_
                refine wl_assign rfl rfl ?_
                refine wl_assign rfl rfl ?_
                refine wl_assign rfl rfl ?_
                refine wl_nil ?_
                refine qs_seq ?_
                refine wc_ret ?_
                refine qs_block_ret ?_
                refine qs_then_ret ?_
                refine fin3 (.inr rfl) rfl rfl rfl rfl ?_
                exact ⟨_, rfl, by unfold doV; rw [if_neg (by omega), if_neg (by assumption), if_neg (by assumption), if_neg (by assumption), if_neg (by assumption), if_pos (by first | assumption | omega)], by unfold doW; rw [if_neg (by omega), if_neg (by assumption), if_neg (by assumption), if_neg (by assumption), if_neg (by assumption), if_pos (by first | assumption | omega)]; exact refL_up (by omega) (hS30.pick [0, 2] rfl)⟩
              · skip
                refine wc_seq ?_
                refine wc_region ?_
                refine wl_eql rfl rfl rfl ?_
                refine wl_assign rfl rfl ?_
                refine wl_nil ?_
                refine qs_seq ?_
                refine wc_sub (L' := [(78, _), (6, _), (5, _), (4, _), (3, _), (0, _)]) (.cons rfl (.cons rfl (.cons rfl (.cons rfl (.cons rfl (.cons rfl .nil)))))) ?_
                refine wc_condD rfl (fun h31 => ?_) (fun h31 => ?_)
                · skip
                  refine wc_seq ?_
                  have hS32 := hS1.drew
                  refine wc_draw [0, 1, 2, 4, 5, 3, 6] [3, 6] mix (by kernel_rfl) ?_
                  refine vc_p rfl rfl rfl (fun _ => (ev_move rfl)) ?_
                  refine vc_p rfl rfl rfl (fun _ => (ev_fieldAddr rfl fo_36_2)) ?_
                  refine vc_q rfl rfl rfl (ev_load rfl ag_3 (by first | assumption | exact hS32.cell 0 rfl rfl)) ?_
                  refine vc_p rfl rfl rfl (fun _ => (ev_fieldAddr rfl fo_36_3)) ?_
                  refine vc_q rfl rfl rfl (ev_load rfl ag_9 (by first | assumption | exact hS32.cell 0 rfl rfl)) ?_
                  refine vc_s rfl rfl rfl rfl rfl rfl ?_
                  have hC33 := hS32.split [] [false, false, false] rfl; dsimp only [selF, pickA, nthA, List.cons_append, List.nil_append] at hC33
                  refine wl_call cal_15 rfl (tcell_sp hC33 o.n) rfl ?_
                  rintro e w33 ⟨_, rfl, rfl, hS33⟩; refine ⟨_, rfl, ?_⟩
                  replace hS33 := hS33.join rfl; dsimp only [List.dropLast, List.cons_append, List.nil_append] at hS33; clear hC33
                  clear hS32
                  refine vc_e (.cons (.inl ⟨rfl, (ev_load rfl ag_9 (by first | assumption | exact hS33.cell 0 rfl rfl))⟩) (.skip (by kernel_rfl) .nil)) ?_
                  refine vc_s rfl rfl rfl rfl rfl rfl ?_
                  have hC34 := hS33.split [1] [false, true, false] rfl; dsimp only [selF, pickA, nthA, List.cons_append, List.nil_append] at hC34
                  refine wl_call cal_38 rfl (lPut hC34 (by omega) (cellK o.n) o.s) rfl ?_
                  rintro e w34 ⟨_, rfl, rfl, hS34⟩; refine ⟨_, rfl, ?_⟩
                  replace hS34 := hS34.join rfl; dsimp only [List.dropLast, List.cons_append, List.nil_append] at hS34; clear hC34
                  clear hS33
                  refine vc_e (.skip (by kernel_rfl) (.skip (by kernel_rfl) .nil)) ?_
                  refine VC.nil ?_
                  refine qs_seq ?_
                  refine wc_sub (L' := [(6, _), (5, _), (4, _), (3, _), (0, _)]) (.cons rfl (.cons rfl (.cons rfl (.cons rfl (.cons rfl .nil))))) ?_
                  refine wc_seq ?_
                  refine wc_region ?_
                  refine wl_assign rfl rfl ?_
                  refine wl_assign rfl rfl ?_
                  refine wl_assign rfl rfl ?_
                  refine wl_nil ?_
                  refine qs_seq ?_
                  refine wc_ret ?_
                  refine qs_block_ret ?_
                  refine qs_then_ret ?_
                  refine fin3 (.inr rfl) rfl rfl rfl rfl ?_
                  exact ⟨_, rfl, by unfold doV; rw [if_neg (by omega), if_neg (by assumption), if_neg (by assumption), if_neg (by assumption), if_neg (by assumption), if_neg (by assumption), if_pos (by first | assumption | omega)], by unfold doW; rw [if_neg (by omega), if_neg (by assumption), if_neg (by assumption), if_neg (by assumption), if_neg (by assumption), if_neg (by assumption), if_pos (by first | assumption | omega)]; exact refL_up (by omega) (hS34.pick [0, 2] rfl)⟩
                · skip
                  refine wc_skip ?_
                  refine qs_block_normal ?_
                  refine qs_seq ?_
                  refine wc_seq ?_
                  refine wc_region ?_
                  refine wl_move rfl rfl ?_
                  refine wl_fieldAddr rfl fo_36_1 rfl ?_
                  refine wl_load rfl ag_3 (by first | assumption | exact hS1.cell 0 rfl rfl) rfl ?_
                  refine wl_fieldAddr rfl fo_36_2 rfl ?_
                  refine wl_load rfl ag_3 (by first | assumption | exact hS1.cell 0 rfl rfl) rfl ?_
                  have hC35 := hS1.split [1] [false, true, false] rfl; dsimp only [selF, pickA, nthA, List.cons_append, List.nil_append] at hC35
                  refine wl_call cal_39 rfl (qRead_sp hC35 (by omega) hB o.now o.n) rfl ?_
                  rintro e w35 ⟨_, rfl, rfl, hS35⟩; refine ⟨_, rfl, ?_⟩
                  replace hS35 := hS35.join rfl; dsimp only [List.dropLast, List.cons_append, List.nil_append] at hS35; clear hC35
                  clear hS1
                  refine wl_move rfl rfl ?_
                  refine wl_extract rfl rfl rfl ?_
                  refine wl_extract rfl rfl rfl ?_
                  refine wl_assign rfl rfl ?_
                  refine wl_assign rfl rfl ?_
                  refine wl_nil ?_
                  refine qs_seq ?_
                  refine wc_sub (L' := [(12, _), (11, _), (6, _), (5, _), (4, _)]) (.cons rfl (.cons rfl (.cons rfl (.cons rfl (.cons rfl .nil))))) ?_
                  refine wc_seq ?_
                  refine wc_region ?_
                  refine wl_move rfl rfl ?_
                  refine wl_move rfl rfl ?_
                  refine wl_assign rfl rfl ?_
                  refine wl_assign rfl rfl ?_
                  refine wl_assign rfl rfl ?_
                  refine wl_nil ?_
                  refine qs_seq ?_
                  refine wc_ret ?_
                  refine fin3 (.inr rfl) rfl rfl rfl rfl ?_
                  exact ⟨_, rfl, by unfold doV; rw [if_neg (by omega), if_neg (by assumption), if_neg (by assumption), if_neg (by assumption), if_neg (by assumption), if_neg (by assumption), if_neg (by assumption)], by unfold doW; rw [if_neg (by omega), if_neg (by assumption), if_neg (by assumption), if_neg (by assumption), if_neg (by assumption), if_neg (by assumption), if_neg (by assumption)]; exact refL_up (by omega) (hS35.pick [0, 2] rfl)⟩

end Go.Proofs.YtdkfppcafpjomaaGreatDoor
