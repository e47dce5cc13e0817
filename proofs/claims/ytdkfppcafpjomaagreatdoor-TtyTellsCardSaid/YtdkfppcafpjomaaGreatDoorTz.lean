/- tty: Items, number, next -/
import Derived.Test.YtdkfppcafpjomaaGreatDoorTy
namespace Go.Proofs.YtdkfppcafpjomaaGreatDoor
open Go.RowKit M
set_option linter.unusedVariables false
theorem txtV_len (s : Bs × Bool) : (txtV s).length ≤ s.1.length := by
  have h1 := numR_len 58 0 s
  unfold txtV
  split
  · simp
  · split
    · simp
    · simp only [List.length_take]; omega
theorem stR_len (n : Nat) (s : Bs × Bool) : (stR n s).1.length ≤ s.1.length := by
  induction n with
  | zero => exact Nat.le_refl _
  | succ n ih =>
    have h1 := txtR_len (numR 59 imin (numR 59 imin (stR n s)))
    have h2 := numR_len 59 imin (numR 59 imin (stR n s))
    have h3 := numR_len 59 imin (stR n s)
    show (stpR (stR n s)).1.length ≤ _
    unfold stpR; omega
theorem rd_ok {n : Nat} {s : Bs × Bool} (h : s.1.length ≤ 1000000) : ∀ x ∈ rdL n s, OkIt x := by
  intro x hx
  obtain ⟨j, _, rfl⟩ := List.mem_map.1 hx
  refine ⟨numV_in _ _ _, numV_in _ _ _, ?_⟩
  have h1 := txtV_len (numR 59 imin (numR 59 imin (stR j s)))
  have h2 := numR_len 59 imin (numR 59 imin (stR j s))
  have h3 := numR_len 59 imin (stR j s)
  have h4 := stR_len j s
  show (txtV _).length ≤ _
  omega
set_option maxRecDepth 100000 in
theorem items_sp {w : World} {p : Nat} {W : WS} {F : Th} (hS : Sat w [worldT p W, F]) (hG : Ent F WireG) (hz : (W.cells kIn).length ≤ 1000000) :
    Calls Tryz.prog 12 #[.iface 24 (ptrV p 0)] w (Ret fun v w' => Sat w' [rowT itC v (itemsW W), worldT p W, F]) := by
  refine calls_enter Tryz.func12 rfl Tryz.ntmps12 rfl ?_
  refine wc_seq ?_
  refine wc_region ?_
  refine wl_assign rfl rfl ?_
  refine wl_nil ?_
  refine qs_seq ?_
  refine wc_seq ?_
  refine wc_region ?_
  refine wl_move rfl rfl ?_
  have hC1 := hS.split [0] [true, false] rfl; dsimp only [selF, pickA, nthA, List.cons_append, List.nil_append] at hC1
  refine wl_invoke (vs := [strV kIn]) rfl (imeth_Get p) cal_14 rfl (get_sp hC1 kIn) rfl ?_
  rintro e w1 ⟨_, rfl, rfl, hS1⟩; refine ⟨_, rfl, ?_⟩
  replace hS1 := hS1.join rfl; dsimp only [List.dropLast, List.cons_append, List.nil_append] at hS1; clear hC1
  refine wl_assign rfl rfl ?_
  refine wl_nil ?_
  refine qs_seq ?_
  refine wc_seq ?_
  refine wc_seq ?_
  refine wc_region ?_
  refine wl_move rfl rfl ?_
  refine wl_eqlS rfl rfl rfl ?_
  refine wl_nil ?_
  refine qs_seq ?_
  refine wc_condD rfl (fun h2 => ?_) (fun h2 => ?_)
  · skip
    refine wc_seq ?_
    refine wc_region ?_
    refine wl_assign rfl rfl ?_
    refine wl_nil ?_
    refine qs_seq ?_
    refine wc_ret ?_
    refine qs_then_ret ?_
    refine fin1 (.inr rfl) rfl rfl ?_
    exact ⟨_, rfl, (by unfold itemsW itemsC; rw [if_pos (by assumption)]; exact (hS1.pick [0, 1] rfl).row_nil itC)⟩
  · skip
    refine wc_skip ?_
    refine qs_seq ?_
    refine wc_seq ?_
    refine wc_region ?_
    refine wl_move rfl rfl ?_
    have hC3 := hS1.split [] [false, false] rfl; dsimp only [selF, pickA, nthA, List.cons_append, List.nil_append] at hC3
    refine wl_call cal_42 rfl (wOpen_sp hC3 (W.cells kIn)) rfl ?_
    rintro e w3 ⟨_, rfl, rb, rfl, hS3⟩; refine ⟨_, rfl, ?_⟩
    replace hS3 := hS3.join rfl; dsimp only [List.dropLast, List.cons_append, List.nil_append] at hS3; clear hC3
    clear hS1
    refine wl_assign rfl rfl ?_
    refine wl_nil ?_
    refine qs_seq ?_
    refine wc_seq ?_
    refine wc_region ?_
    refine wl_assign rfl rfl ?_
    refine wl_nil ?_
    refine qs_seq ?_
    refine wc_sub (L' := [(5, _), (4, _), (3, _), (2, _)]) (.cons rfl (.cons rfl (.cons rfl (.cons rfl .nil)))) ?_
    refine wc_seq ?_
    refine wc_seq ?_
    have hnn := numV_nn 59 (W.cells kIn, false)
    refine wc_region ?_
    refine wl_move rfl rfl ?_
    have hC4 := hS3.split [0] [true, false, false] rfl; dsimp only [selF, pickA, nthA, List.cons_append, List.nil_append] at hC4
    refine wl_call cal_43 rfl (rNum_sp hC4 (hG.starL 1 rfl) (by dsimp only; omega)) rfl ?_
    rintro e w4 ⟨_, rfl, rfl, hS4⟩; refine ⟨_, rfl, ?_⟩
    replace hS4 := hS4.join rfl; dsimp only [List.dropLast, List.cons_append, List.nil_append] at hS4; clear hC4
    clear hS3
    refine wl_minI rfl rfl rfl ?_
    refine wl_move rfl rfl ?_
    refine wl_nil ?_
    refine qs_seq ?_
    refine wc_block ?_
    refine wc_loop (fun K0 E0 W0 => ∃ (i : Nat) (ov : Value), K0 = 101 - i ∧ E0 = [(3, strV (W.cells kIn)), (4, ptrV rb 0), (5, ov), (14, intV (min (numV 59 0 (W.cells kIn, false)) 101)), (15, intV (i : Int))] ∧ Sat W0 [readT rb (stR i (numR 59 0 (W.cells kIn, false))), rowT itC ov (rdL i (numR 59 0 (W.cells kIn, false))), worldT p W, F] ∧ ((i : Int) ≤ (min (numV 59 0 (W.cells kIn, false)) 101))) (L0 := [(3, _), (4, _), (5, _), (14, _), (15, _)]) (101 - 0) (.cons rfl (.cons rfl (.cons rfl (.cons rfl (.cons rfl .nil))))) ⟨0, _, rfl, rfl, (hS4.row_nil itC).pick [1, 0, 2, 3] rfl, by omega⟩ ?_
    rintro _ _ w5 ⟨i, ov, rfl, rfl, hS5, hi⟩
    have hsl := stR_len i (numR 59 0 (W.cells kIn, false))
    have hrl := rdL_len i (numR 59 0 (W.cells kIn, false))
    have hs0 := numR_len 59 0 (W.cells kIn, false)
    dsimp only at hs0
    have h1ov : ov.oneCell' = true := hS5.own_one 1 rfl
    refine wc_seq ?_
    refine wc_region ?_
    refine wl_lss rfl rfl rfl ?_
    refine wl_nil ?_
    refine qs_seq ?_
    refine wc_seq ?_
    refine wc_condD rfl (fun h6 => ?_) (fun h6 => ?_)
    · skip
      refine wc_skip ?_
      refine qs_seq ?_
      refine wc_seq ?_
      refine wc_block ?_
      refine wc_region ?_
      refine wl_move rfl rfl ?_
      refine wl_move rfl rfl ?_
      have hC7 := hS5.split [0] [true, false, false, false] rfl; dsimp only [selF, pickA, nthA, List.cons_append, List.nil_append] at hC7
      refine wl_call cal_44 rfl (rInt_sp hC7 (hG.starL 2 rfl) (by omega)) rfl ?_
      rintro e w7 ⟨_, rfl, rfl, hS7⟩; refine ⟨_, rfl, ?_⟩
      replace hS7 := hS7.join rfl; dsimp only [List.dropLast, List.cons_append, List.nil_append] at hS7; clear hC7
      clear hS5
      refine wl_move rfl rfl ?_
      have hq1 := numR_len 59 (-9223372036854775808) (stR i (numR 59 0 (W.cells kIn, false)))
      have hC8 := hS7.split [0] [true, false, false, false] rfl; dsimp only [selF, pickA, nthA, List.cons_append, List.nil_append] at hC8
      refine wl_call cal_44 rfl (rInt_sp hC8 (hG.starL 2 rfl) (by omega)) rfl ?_
      rintro e w8 ⟨_, rfl, rfl, hS8⟩; refine ⟨_, rfl, ?_⟩
      replace hS8 := hS8.join rfl; dsimp only [List.dropLast, List.cons_append, List.nil_append] at hS8; clear hC8
      clear hS7
      refine wl_move rfl rfl ?_
      have hq2 := numR_len 59 (-9223372036854775808) (numR 59 (-9223372036854775808) (stR i (numR 59 0 (W.cells kIn, false))))
      have hC9 := hS8.split [0] [true, false, false, false] rfl; dsimp only [selF, pickA, nthA, List.cons_append, List.nil_append] at hC9
      refine wl_call cal_45 rfl (rText_sp hC9 (hG.starL 2 rfl) (by omega)) rfl ?_
      rintro e w9 ⟨_, rfl, rfl, hS9⟩; refine ⟨_, rfl, ?_⟩
      replace hS9 := hS9.join rfl; dsimp only [List.dropLast, List.cons_append, List.nil_append] at hS9; clear hC9
      clear hS8
      refine wl_buildS rfl pl_49_0_1_2 asz_49 zr_49 rfl rfl ?_
      refine wl_rowBuild itC [itmR (stR i (numR 59 0 (W.cells kIn, false)))] hS9 rfl Tryz.underlying34 ifz_49 rfl rfl rfl rfl (by first | rfl | simp [RowC.cells, fillL, splice]) rfl ?_
      intro b10 w10 hS10
      clear hS9
      refine wl_rowApp itC 2 hS10 rfl rfl rfl (hS10.rd 0 rfl (by simp)) Tryz.underlying34 Tryz.underlying34 (by intro k hk; cases hk) ifo_49 rfl (by simp only [List.length_cons, List.length_nil]; omega) rfl (by simp only [List.length_cons, List.length_nil]; omega) ?_
      intro v11 w11 hS11; dsimp only [List.set] at hS11
      clear hS10
      have h1v11 : v11.oneCell' = true := hS11.own_one 2 rfl
      refine wl_assign rfl rfl ?_
      refine wl_nil ?_
      refine qs_block_normal ?_
      refine qs_seq ?_
      refine wc_sub (L' := [(5, _), (3, _), (4, _), (14, _), (15, _)]) (.cons rfl (.cons rfl (.cons rfl (.cons rfl (.cons rfl .nil))))) ?_
      refine wc_region ?_
      refine wl_add rfl rfl (by first | omega | (simp; omega)) (by first | omega | (simp; omega)) rfl ?_
      refine wl_move rfl rfl ?_
      refine wl_nil ?_
      exact qs_round (L1 := [(3, _), (4, _), (5, _), (14, _), (15, intV ((i + 1 : Nat) : Int))]) (.cons rfl (.cons rfl (.cons rfl (.cons rfl (.cons rfl .nil))))) (k1 := 101 - (i + 1)) (by omega) ⟨i + 1, _, rfl, rfl, (by rw [rdL_succ]; exact hS11.pick [1, 2, 3, 4] rfl), by omega⟩
    · skip
      refine wc_exit ?_
      refine qs_then_exit ?_
      refine qs_then_exit ?_
      refine qs_block_exit ?_
      refine qs_seq ?_
      refine wc_seq ?_
      refine wc_seq ?_
      refine wc_region ?_
      refine wl_move rfl rfl ?_
      have hC12 := hS5.split [] [false, false, false, false] rfl; dsimp only [selF, pickA, nthA, List.cons_append, List.nil_append] at hC12
      refine wl_call cal_46 rfl (bytes_sp hC12 (hG.starL 3 rfl) (Ent.starL (ent_row (C := itC) (l := rdL i (numR 59 0 (W.cells kIn, false))) (by omega)) 1 rfl) (by omega) (rd_ok (by omega))) rfl ?_
      rintro e w12 ⟨_, rfl, rfl, hS12⟩; refine ⟨_, rfl, ?_⟩
      replace hS12 := hS12.join rfl; dsimp only [List.dropLast, List.cons_append, List.nil_append] at hS12; clear hC12
      clear hS5
      refine wl_move rfl rfl ?_
      refine wl_neqS rfl rfl rfl ?_
      refine wl_move rfl rfl ?_
      refine wl_splitD 32 rfl (fun h13 => ?_) (fun h13 => ?_)
      · skip
        refine wl_unwanted rfl rfl (decide_eq_true h13) rfl ?_
        refine wl_unwanted rfl rfl (decide_eq_true h13) rfl ?_
        refine wl_unwanted rfl rfl (decide_eq_true h13) rfl ?_
        refine wl_pickT rfl (decide_eq_true h13) rfl rfl ?_
        refine wl_nil ?_
        refine qs_seq ?_
        refine wc_sub (L' := [(36, _), (5, _)]) (.cons rfl (.cons rfl .nil)) ?_
        refine wc_condT rfl ?_
        refine wc_seq ?_
        refine wc_region ?_
        refine wl_assign rfl rfl ?_
        refine wl_nil ?_
        refine qs_seq ?_
        refine wc_ret ?_
        refine qs_then_ret ?_
        refine fin1 (.inr rfl) rfl rfl ?_
        have hni : (i : Int) = (min (numV 59 0 (W.cells kIn, false)) 101) := by omega
        have hni2 : (min (numV 59 0 (W.cells kIn, false)) 101).toNat = i := by omega
        exact ⟨_, rfl, (by unfold itemsW itemsC; rw [if_neg (by assumption), hni2, if_neg (by rintro ⟨q1, q2⟩; first | contradiction | (simp_all; done))]; exact (hS12.pick [2, 3] rfl).row_nil itC)⟩
      · skip
        refine wl_guard rfl rfl (decide_eq_false h13) ?_
        refine wl_move rfl rfl ?_
        refine wl_guard rfl rfl (decide_eq_false h13) ?_
        have hC14 := hS12.split [] [false, false, false, false] rfl; dsimp only [selF, pickA, nthA, List.cons_append, List.nil_append] at hC14
        refine wl_call cal_47 rfl (right_sp hC14 (Ent.starL (ent_row (C := itC) (l := rdL i (numR 59 0 (W.cells kIn, false))) (by omega)) 1 rfl) (by omega)) rfl ?_
        rintro e w14 ⟨_, rfl, rfl, hS14⟩; refine ⟨_, rfl, ?_⟩
        replace hS14 := hS14.join rfl; dsimp only [List.dropLast, List.cons_append, List.nil_append] at hS14; clear hC14
        clear hS12
        refine wl_guard rfl rfl (decide_eq_false h13) ?_
        refine wl_not rfl rfl ?_
        refine wl_pickF rfl (decide_eq_false h13) rfl rfl ?_
        refine wl_nil ?_
        refine qs_seq ?_
        refine wc_sub (L' := [(36, _), (5, _)]) (.cons rfl (.cons rfl .nil)) ?_
        refine wc_cond rfl (fun h15 => ?_) (fun h15 => ?_)
        · skip
          refine wc_seq ?_
          refine wc_region ?_
          refine wl_assign rfl rfl ?_
          refine wl_nil ?_
          refine qs_seq ?_
          refine wc_ret ?_
          refine qs_then_ret ?_
          refine fin1 (.inr rfl) rfl rfl ?_
          have hni : (i : Int) = (min (numV 59 0 (W.cells kIn, false)) 101) := by omega
          have hni2 : (min (numV 59 0 (W.cells kIn, false)) 101).toNat = i := by omega
          exact ⟨_, rfl, (by unfold itemsW itemsC; rw [if_neg (by assumption), hni2, if_neg (by rintro ⟨q1, q2⟩; first | contradiction | (simp_all; done))]; exact (hS14.pick [2, 3] rfl).row_nil itC)⟩
        · skip
          refine wc_skip ?_
          refine qs_seq ?_
          refine wc_seq ?_
          refine wc_region ?_
          refine wl_move rfl rfl ?_
          refine wl_assign rfl rfl ?_
          refine wl_nil ?_
          refine qs_seq ?_
          refine wc_ret ?_
          refine fin1 (.inr rfl) rfl rfl ?_
          have hni : (i : Int) = (min (numV 59 0 (W.cells kIn, false)) 101) := by omega
          have hni2 : (min (numV 59 0 (W.cells kIn, false)) 101).toNat = i := by omega
          exact ⟨_, rfl, (by unfold itemsW itemsC; rw [if_neg (by assumption), hni2, if_pos ⟨Decidable.not_not.1 (by assumption), by simp_all⟩]; exact hS14.pick [1, 2, 3] rfl)⟩

theorem number1_sp {w : World} {p : Nat} {W : WS} {F : Th} (hS : Sat w [worldT p W, F]) (hG : Ent F WireG) (key : Bs) (hz : (W.cells key).length ≤ 1000000) :
    Calls Tryz.prog 40 #[.iface 24 (ptrV p 0), strV key] w (Ret fun v w' => v = intV (numC (W.cells key)) ∧ Sat w' [worldT p W, F]) := by
  refine calls_enter Tryz.func40 rfl Tryz.ntmps40 rfl ?_
  refine wc_seq ?_
  refine wc_region ?_
  refine wl_assign rfl rfl ?_
  refine wl_nil ?_
  refine qs_seq ?_
  refine wc_seq ?_
  refine wc_region ?_
  refine wl_move rfl rfl ?_
  refine wl_move rfl rfl ?_
  have hC1 := hS.split [0] [true, false] rfl; dsimp only [selF, pickA, nthA, List.cons_append, List.nil_append] at hC1
  refine wl_invoke (vs := [strV key]) rfl (imeth_Get p) cal_14 rfl (get_sp hC1 key) rfl ?_
  rintro e w1 ⟨_, rfl, rfl, hS1⟩; refine ⟨_, rfl, ?_⟩
  replace hS1 := hS1.join rfl; dsimp only [List.dropLast, List.cons_append, List.nil_append] at hS1; clear hC1
  refine wl_assign rfl rfl ?_
  refine wl_nil ?_
  refine qs_seq ?_
  refine wc_seq ?_
  refine wc_seq ?_
  refine wc_region ?_
  refine wl_move rfl rfl ?_
  refine wl_eqlS rfl rfl rfl ?_
  refine wl_nil ?_
  refine qs_seq ?_
  refine wc_condD rfl (fun h2 => ?_) (fun h2 => ?_)
  · skip
    refine wc_seq ?_
    refine wc_region ?_
    refine wl_assign rfl rfl ?_
    refine wl_nil ?_
    refine qs_seq ?_
    refine wc_ret ?_
    refine qs_then_ret ?_
    refine fin1 (.inr rfl) rfl rfl ?_
    exact ⟨_, rfl, by unfold numC; rw [if_pos (by assumption)], hS1.pick [0, 1] rfl⟩
  · skip
    refine wc_skip ?_
    refine qs_seq ?_
    refine wc_seq ?_
    refine wc_seq ?_
    refine wc_region ?_
    refine wl_move rfl rfl ?_
    have hC3 := hS1.split [] [false, false] rfl; dsimp only [selF, pickA, nthA, List.cons_append, List.nil_append] at hC3
    refine wl_call cal_42 rfl (wOpen_sp hC3 (W.cells key)) rfl ?_
    rintro e w3 ⟨_, rfl, rb, rfl, hS3⟩; refine ⟨_, rfl, ?_⟩
    replace hS3 := hS3.join rfl; dsimp only [List.dropLast, List.cons_append, List.nil_append] at hS3; clear hC3
    clear hS1
    have hC4 := hS3.split [0] [true, false, false] rfl; dsimp only [selF, pickA, nthA, List.cons_append, List.nil_append] at hC4
    refine wl_call cal_44 rfl (rInt_sp hC4 (hG.starL 1 rfl) (by dsimp only; omega)) rfl ?_
    rintro e w4 ⟨_, rfl, rfl, hS4⟩; refine ⟨_, rfl, ?_⟩
    replace hS4 := hS4.join rfl; dsimp only [List.dropLast, List.cons_append, List.nil_append] at hS4; clear hC4
    clear hS3
    refine wl_assign rfl rfl ?_
    refine wl_nil ?_
    refine qs_seq ?_
    refine wc_sub (L' := [(6, _), (5, _), (4, _)]) (.cons rfl (.cons rfl (.cons rfl .nil))) ?_
    refine wc_seq ?_
    refine wc_region ?_
    refine wl_move rfl rfl ?_
    have hC5 := hS4.split [] [false, false, false] rfl; dsimp only [selF, pickA, nthA, List.cons_append, List.nil_append] at hC5
    refine wl_call cal_60 rfl (wInt_sp hC5 (hG.starL 2 rfl) _ (numV_in _ _ _)) rfl ?_
    rintro e w5 ⟨_, rfl, rfl, hS5⟩; refine ⟨_, rfl, ?_⟩
    replace hS5 := hS5.join rfl; dsimp only [List.dropLast, List.cons_append, List.nil_append] at hS5; clear hC5
    clear hS4
    refine wl_move rfl rfl ?_
    refine wl_eqlS rfl rfl rfl ?_
    refine wl_nil ?_
    refine qs_seq ?_
    refine wc_condD rfl (fun h6 => ?_) (fun h6 => ?_)
    · skip
      refine wc_seq ?_
      refine wc_region ?_
      refine wl_move rfl rfl ?_
      refine wl_assign rfl rfl ?_
      refine wl_nil ?_
      refine qs_seq ?_
      refine wc_ret ?_
      refine qs_then_ret ?_
      refine fin1 (.inr rfl) rfl rfl ?_
      exact ⟨_, rfl, by unfold numC; rw [if_neg (by assumption), if_pos (by assumption)]; rfl, hS5.pick [1, 2] rfl⟩
    · skip
      refine wc_skip ?_
      refine qs_seq ?_
      refine wc_seq ?_
      refine wc_region ?_
      refine wl_assign rfl rfl ?_
      refine wl_nil ?_
      refine qs_seq ?_
      refine wc_ret ?_
      refine fin1 (.inr rfl) rfl rfl ?_
      exact ⟨_, rfl, by unfold numC; rw [if_neg (by assumption), if_neg (by assumption)], hS5.pick [1, 2] rfl⟩

theorem control_sp {w : World} {F : Th} (hS : Sat w [F]) (x : ItemD) :
    Calls Tryz.prog 81 #[.agg #[intV x.a, intV x.k, strV x.t]] w (Ret fun v w' => v = .bool (ctlB x) ∧ Sat w' [F]) := by
  refine calls_enter Tryz.func81 rfl Tryz.ntmps81 rfl ?_
  refine wc_seq ?_
  refine wc_region ?_
  refine wl_box hS rfl rfl rfl ?_
  intro b1 w1 hS1
  refine wl_assign rfl rfl ?_
  refine wl_nil ?_
  refine qs_seq ?_
  refine wc_seq ?_
  refine wc_region ?_
  refine wl_fieldAddr rfl fo_49_1 rfl ?_
  refine wl_load rfl ag_3 (by first | assumption | exact hS1.cell 0 rfl rfl) rfl ?_
  refine wl_eql rfl rfl rfl ?_
  refine wl_move rfl rfl ?_
  refine wl_splitD 6 rfl (fun h2 => ?_) (fun h2 => ?_)
  · skip
    refine wl_unwanted rfl rfl (decide_eq_true h2) rfl ?_
    refine wl_unwanted rfl rfl (decide_eq_true h2) rfl ?_
    refine wl_unwanted rfl rfl (decide_eq_true h2) rfl ?_
    refine wl_pickT rfl (decide_eq_true h2) rfl rfl ?_
    refine wl_assign rfl rfl ?_
    refine wl_nil ?_
    refine qs_seq ?_
    refine wc_sub (L' := [(2, _)]) (.cons rfl .nil) ?_
    refine wc_ret ?_
    refine fin1 (.inr rfl) rfl rfl ?_
    exact ⟨_, rfl, by unfold ctlB; congr 1; simp_all, hS1.pick [1] rfl⟩
  · skip
    refine wl_guard rfl rfl (decide_eq_false h2) ?_
    refine wl_fieldAddr rfl fo_49_1 rfl ?_
    refine wl_guard rfl rfl (decide_eq_false h2) ?_
    refine wl_load rfl ag_3 (by first | assumption | exact hS1.cell 0 rfl rfl) rfl ?_
    refine wl_guard rfl rfl (decide_eq_false h2) ?_
    refine wl_eql rfl rfl rfl ?_
    refine wl_pickF rfl (decide_eq_false h2) rfl rfl ?_
    refine wl_assign rfl rfl ?_
    refine wl_nil ?_
    refine qs_seq ?_
    refine wc_sub (L' := [(2, _)]) (.cons rfl .nil) ?_
    refine wc_ret ?_
    refine fin1 (.inr rfl) rfl rfl ?_
    exact ⟨_, rfl, by unfold ctlB; congr 1; simp_all, hS1.pick [1] rfl⟩

def nxI (l : List ItemD) (q : Option Nat) : ItemD := match q with | some i => ix l i | none => zeroI
def nxN (q : Option Nat) : Int := match q with | some i => (i : Int) | none => 0
theorem next_hit {l : List ItemD} {st i : Nat} {ctl : Bool} {x : ItemD} (hsi : st ≤ i) (hno : ∀ k x, st ≤ k → k < i → l[k]? = some x → ctlB x ≠ ctl) (hx : l[i]? = some x) (hc : ctlB x = ctl) : nextF l st ctl = some i := nextF_some.2 ⟨⟨hsi, x, hx, hc⟩, hno⟩
theorem next_miss {l : List ItemD} {st i : Nat} {ctl : Bool} (hno : ∀ k x, st ≤ k → k < i → l[k]? = some x → ctlB x ≠ ctl) (hi : l.length ≤ i) : nextF l st ctl = none := nextF_none.2 fun k x h1 h2 => hno k x h1 (by have := (List.getElem?_eq_some_iff.1 h2).1; omega) h2
theorem items_len (W : WS) : (itemsW W).length ≤ 100 := right_len (items_right _)
set_option maxRecDepth 100000 in
theorem next_sp {w : World} {p : Nat} {W : WS} {F : Th} (hS : Sat w [worldT p W, F]) (hG : Ent F WireG) (hzi : (W.cells kIn).length ≤ 1000000) (key : Bs) (hz : (W.cells key).length ≤ 1000000) (ctl : Bool) :
    Calls Tryz.prog 59 #[.iface 24 (ptrV p 0), strV key, .bool ctl] w (Ret fun v w' => v = .tuple #[.agg #[intV (nxI (itemsW W) (nextW W key ctl)).a, intV (nxI (itemsW W) (nextW W key ctl)).k, strV (nxI (itemsW W) (nextW W key ctl)).t], intV (nxN (nextW W key ctl)), .bool (nextW W key ctl).isSome] ∧ Sat w' [worldT p W, F]) := by
  refine calls_enter Tryz.func59 rfl Tryz.ntmps59 rfl ?_
  have hil := items_len W
  refine wc_seq ?_
  refine wc_region ?_
  refine wl_alloc hS zr_49 rfl rfl ?_
  intro br wbr hSbr
  refine wl_assign rfl rfl ?_
  refine wl_assign rfl rfl ?_
  refine wl_nil ?_
  refine qs_seq ?_
  refine wc_seq ?_
  refine wc_region ?_
  refine wl_move rfl rfl ?_
  have hC1 := hSbr.split [1] [false, true, false] rfl; dsimp only [selF, pickA, nthA, List.cons_append, List.nil_append] at hC1
  refine wl_call cal_12 rfl (items_sp hC1 (hG.starL 1 rfl) hzi) rfl ?_
  rintro e w1 ⟨_, rfl, hS1⟩; refine ⟨_, rfl, ?_⟩
  replace hS1 := hS1.join rfl; dsimp only [List.dropLast, List.cons_append, List.nil_append] at hS1; clear hC1
  clear hSbr
  refine wl_assign rfl rfl ?_
  refine wl_nil ?_
  refine qs_seq ?_
  refine wc_seq ?_
  refine wc_seq ?_
  refine wc_region ?_
  refine wl_move rfl rfl ?_
  refine wl_move rfl rfl ?_
  have hC2 := hS1.split [1] [false, true, false, false] rfl; dsimp only [selF, pickA, nthA, List.cons_append, List.nil_append] at hC2
  refine wl_call cal_40 rfl (number1_sp hC2 (hG.starL 2 rfl) key hz) rfl ?_
  rintro e w2 ⟨_, rfl, rfl, hS2⟩; refine ⟨_, rfl, ?_⟩
  replace hS2 := hS2.join rfl; dsimp only [List.dropLast, List.cons_append, List.nil_append] at hS2; clear hC2
  clear hS1
  refine wl_maxI rfl rfl rfl ?_
  rw [show max (numC (W.cells key)) 0 = ((posW W key : Nat) : Int) by unfold posW; omega]
  refine wl_assign rfl rfl ?_
  refine wl_nil ?_
  refine qs_seq ?_
  refine wc_sub (L' := [(10, _), (9, _), (8, _), (7, _), (6, _), (2, _)]) (.cons rfl (.cons rfl (.cons rfl (.cons rfl (.cons rfl (.cons rfl .nil)))))) ?_
  refine wc_block ?_
  refine wc_loop (fun K0 E0 W0 => ∃ (i : Nat) (lv : Value), K0 = 101 - i ∧ E0 = [(2, .bool ctl), (6, ptrV br 0), (7, intV 0), (8, .bool false), (9, lv), (10, intV (i : Int))] ∧ Sat W0 [blkT br [intV 0, intV 0, strV []], rowT itC lv (itemsW W), worldT p W, F] ∧ (posW W key ≤ i) ∧ (∀ k x, posW W key ≤ k → k < i → (itemsW W)[k]? = some x → ctlB x ≠ ctl)) (L0 := [(2, _), (6, _), (7, _), (8, _), (9, _), (10, _)]) (101 - posW W key) (.cons rfl (.cons rfl (.cons rfl (.cons rfl (.cons rfl (.cons rfl .nil)))))) ⟨posW W key, _, rfl, rfl, hS2.pick [2, 1, 0, 3] rfl, by omega, fun k x h1 h2 => absurd h2 (by omega)⟩ ?_
  rintro _ _ w3 ⟨i, lv, rfl, rfl, hS3, hsi, hno⟩
  refine wc_seq ?_
  refine wc_seq ?_
  refine wc_region ?_
  refine wl_move rfl rfl ?_
  refine wl_move rfl rfl ?_
  first | refine wl_lenL Tryz.underlying34 rfl rfl ?_ | refine wl_lenO 1 hS3 Tryz.underlying34 rfl rfl rfl ?_
  refine wl_lss rfl rfl rfl ?_
  refine wl_nil ?_
  refine qs_seq ?_
  refine wc_condD rfl (fun h4 => ?_) (fun h4 => ?_)
  · skip
    obtain ⟨x, hx⟩ : ∃ x, (itemsW W)[i]? = some x := ⟨_, List.getElem?_eq_getElem (by omega)⟩
    refine wc_skip ?_
    refine qs_seq ?_
    refine wc_seq ?_
    refine wc_block ?_
    refine wc_seq ?_
    refine wc_region ?_
    refine wl_move rfl rfl ?_
    refine wl_move rfl rfl ?_
    refine wl_rowIdx itC 1 i hS3 rfl rfl rfl (by first | rfl | omega) hx es_34 rfl ?_
    intro bx5 capx5 hvx5
    refine wl_rowLoadA 1 i hS3 rfl hvx5 rfl hx ag_49 sz_49 rfl rfl ?_
    have hC6 := hS3.split [] [false, false, false, false] rfl; dsimp only [selF, pickA, nthA, List.cons_append, List.nil_append] at hC6
    refine wl_call cal_81 rfl (control_sp hC6 x) rfl ?_
    rintro e w6 ⟨_, rfl, rfl, hS6⟩; refine ⟨_, rfl, ?_⟩
    replace hS6 := hS6.join rfl; dsimp only [List.dropLast, List.cons_append, List.nil_append] at hS6; clear hC6
    clear hS3
    refine wl_move rfl rfl ?_
    refine wl_eqlB Tryz.underlying4 rfl rfl rfl ?_
    refine wl_nil ?_
    refine qs_seq ?_
    refine wc_sub (L' := [(29, _), (2, _), (6, _), (7, _), (8, _), (9, _), (10, _)]) (.cons rfl (.cons rfl (.cons rfl (.cons rfl (.cons rfl (.cons rfl (.cons rfl .nil))))))) ?_
    refine wc_cond rfl (fun h7 => ?_) (fun h7 => ?_)
    · skip
      refine wc_seq ?_
      refine wc_region ?_
      refine wl_move rfl rfl ?_
      refine wl_move rfl rfl ?_
      refine wl_rowIdx itC 1 i hS6 rfl rfl rfl (by first | rfl | omega) hx es_34 rfl ?_
      intro bx8 capx8 hvx8
      refine wl_rowLoadA 1 i hS6 rfl hvx8 rfl hx ag_49 sz_49 rfl rfl ?_
      refine wl_move rfl rfl ?_
      first | (refine wl_storeA hS6 rfl rfl sz_49 rfl (by first | rfl | (simp [allOne, Value.oneCell']; done) | assumption | exact hone) (i := 0) rfl (by first | decide | exact Nat.le_of_ble_eq_true rfl | (simp; done) | omega) ?_)
      intro w9 hS10; dsimp only [List.set] at hS10
      clear hS6
      refine wl_assign rfl rfl ?_
      refine wl_assign rfl rfl ?_
      refine wl_nil ?_
      refine qs_seq ?_
      refine wc_sub (L' := [(8, _), (7, _), (2, _), (6, _), (9, _), (10, _)]) (.cons rfl (.cons rfl (.cons rfl (.cons rfl (.cons rfl (.cons rfl .nil)))))) ?_
      refine wc_ret ?_
      refine qs_block_ret ?_
      refine qs_then_ret ?_
      refine qs_then_ret ?_
      refine qs_block_ret ?_
      refine qs_then_ret ?_
      refine finR3 (.inr rfl) rfl (resCA rfl ag_49 sz_49 (by first | exact hS10.blk 0 rfl) (by first | decide | exact Nat.le_of_ble_eq_true rfl | (simp; done) | omega) rfl) (resT rfl) (resT rfl) ?_
      have hnx : nextW W key ctl = some i := next_hit hsi hno hx (by simp_all)
      exact ⟨_, rfl, by rw [hnx]; simp only [nxI, ix_of hx]; rfl, hS10.pick [2, 3] rfl⟩
    · skip
      refine wc_skip ?_
      refine qs_block_normal ?_
      refine qs_seq ?_
      refine wc_region ?_
      refine wl_move rfl rfl ?_
      refine wl_add rfl rfl (by omega) (by omega) rfl ?_
      refine wl_assign rfl rfl ?_
      refine wl_nil ?_
      exact qs_round (L1 := [(2, _), (6, _), (7, _), (8, _), (9, _), (10, intV ((i + 1 : Nat) : Int))]) (.cons rfl (.cons rfl (.cons rfl (.cons rfl (.cons rfl (.cons rfl .nil)))))) (k1 := 101 - (i + 1)) (by omega) ⟨i + 1, _, rfl, rfl, hS6.pick [0, 1, 2, 3] rfl, by omega, fun k y h1 h2 hy => by by_cases e : k = i; (subst e; rw [hx] at hy; cases hy; intro q; simp_all); exact hno k y h1 (by omega) hy⟩
  · skip
    refine wc_exit ?_
    refine qs_then_exit ?_
    refine qs_then_exit ?_
    refine qs_block_exit ?_
    refine qs_seq ?_
    refine wc_seq ?_
    refine wc_region ?_
    refine wl_buildS rfl pl_49_ asz_49 zr_49 rfl rfl ?_
    first | (refine wl_storeA hS3 rfl rfl sz_49 rfl (by first | rfl | (simp [allOne, Value.oneCell']; done) | assumption | exact hone) (i := 0) rfl (by first | decide | exact Nat.le_of_ble_eq_true rfl | (simp; done) | omega) ?_)
    intro w11 hS12; dsimp only [List.set] at hS12
    clear hS3
    refine wl_assign rfl rfl ?_
    refine wl_assign rfl rfl ?_
    refine wl_nil ?_
    refine qs_seq ?_
    refine wc_sub (L' := [(8, _), (7, _), (6, _)]) (.cons rfl (.cons rfl (.cons rfl .nil))) ?_
    refine wc_ret ?_
    refine finR3 (.inr rfl) rfl (resCA rfl ag_49 sz_49 (by first | exact hS12.blk 0 rfl) (by first | decide | exact Nat.le_of_ble_eq_true rfl | (simp; done) | omega) rfl) (resT rfl) (resT rfl) ?_
    have hnx : nextW W key ctl = none := next_miss hno (by omega)
    exact ⟨_, rfl, by rw [hnx]; rfl, hS12.pick [2, 3] rfl⟩

end Go.Proofs.YtdkfppcafpjomaaGreatDoor
