/- laws of pipes: small, PipesFlow -/
import Derived.Test.YtgnhfhhmipcgcaaDoorPq
namespace Go.Proofs.YtgnhfhhmipcgcaaDoor
open Go.RowKit M
set_option linter.unusedVariables false
set_option maxRecDepth 100000 in
theorem psmall_sp {w : World} {F : Th} (hS : Sat w [F]) (hG : Ent F WireG) :
    Calls Tryd.prog 5 #[] w (Ret fun v w' => v = .bool true ∧ Sat w' [F]) := by
  refine calls_enter Tryd.func5 rfl Tryd.ntmps5 rfl ?_
  refine wc_seq ?_
  refine wc_region ?_
  refine wl_assign rfl rfl ?_
  refine wl_nil ?_
  refine qs_seq ?_
  refine wc_seq ?_
  refine wc_region ?_
  have hC1 := hS.split [] [false] rfl; dsimp only [selF, pickA, nthA, List.cons_append, List.nil_append] at hC1
  refine wl_call cal_7 rfl (new_sp hC1) rfl ?_
  rintro e w1 ⟨_, rfl, p, rfl, hS1⟩; refine ⟨_, rfl, ?_⟩
  replace hS1 := hS1.join rfl; dsimp only [List.dropLast, List.cons_append, List.nil_append] at hS1; clear hC1
  refine wl_assign rfl rfl ?_
  refine wl_nil ?_
  refine qs_seq ?_
  refine wc_seq ?_
  refine wc_seq ?_
  refine wc_region ?_
  refine wl_move rfl rfl ?_
  refine wl_eqlNil Tryd.underlying25 rfl rfl rfl ?_
  refine wl_nil ?_
  refine qs_seq ?_
  refine wc_condF rfl ?_
  refine wc_skip ?_
  refine qs_seq ?_
  refine wc_seq ?_
  refine wc_region ?_
  refine wl_move rfl rfl ?_
  refine wl_makeIface nif_25 rfl rfl ?_
  have hC2 := hS1.split [0] [true, false] rfl; dsimp only [selF, pickA, nthA, List.cons_append, List.nil_append] at hC2
  refine wl_call cal_8 rfl (pMake_sp hC2 (hG.starL 0 rfl) PI.empty (by omega) [97] (by simp)) rfl ?_
  rintro e w2 ⟨_, rfl, rfl, hS2⟩; refine ⟨_, rfl, ?_⟩
  replace hS2 := hS2.join rfl; dsimp only [List.dropLast, List.cons_append, List.nil_append] at hS2; clear hC2
  clear hS1
  have m1 := mkG (id := [97]) (by simp) (gP_empty _) (by rw [keyN_empty]; decide)
  have hP1 := PI.empty.make (id := [97]) (by simp) (keyN emptyW)
  have e1 : mkE emptyW [97] (keyN emptyW) = 0 := m1.1
  rw [e1]
  have g1 : gP (mkP emptyW [97] (keyN emptyW)) [97] = some ⟨[], 0, 0⟩ := m1.2
  generalize mkP emptyW [97] (keyN emptyW) = W1 at hP1 g1 hS2
  refine wl_assign rfl rfl ?_
  refine wl_nil ?_
  refine qs_seq ?_
  refine wc_seq ?_
  refine wc_region ?_
  refine wl_move rfl rfl ?_
  refine wl_makeIface nif_25 rfl rfl ?_
  have hC3 := hS2.split [0] [true, false] rfl; dsimp only [selF, pickA, nthA, List.cons_append, List.nil_append] at hC3
  refine wl_call cal_9 rfl (pOpen_sp hC3 (hG.starL 0 rfl) hP1 (by omega) [97] (by simp) false) rfl ?_
  rintro e w3 ⟨_, rfl, rfl, hS3⟩; refine ⟨_, rfl, ?_⟩
  replace hS3 := hS3.join rfl; dsimp only [List.dropLast, List.cons_append, List.nil_append] at hS3; clear hC3
  clear hS2
  have m2 := opnG g1 (by decide) (by decide) false
  have hP2 := hP1.opn (id := [97]) (by simp) false
  have e2 : openE W1 [97] = 0 := m2.1
  rw [e2]
  have g2 : gP (openP W1 [97] false) [97] = some ⟨[], 1, 0⟩ := m2.2
  generalize openP W1 [97] false = W2 at hP2 g2 hS3
  refine wl_assign rfl rfl ?_
  refine wl_nil ?_
  refine qs_seq ?_
  refine wc_sub (L' := [(3, _), (2, _), (1, _), (0, _)]) (.cons rfl (.cons rfl (.cons rfl (.cons rfl .nil)))) ?_
  refine wc_seq ?_
  refine wc_region ?_
  refine wl_move rfl rfl ?_
  refine wl_makeIface nif_25 rfl rfl ?_
  have hC4 := hS3.split [0] [true, false] rfl; dsimp only [selF, pickA, nthA, List.cons_append, List.nil_append] at hC4
  refine wl_call cal_9 rfl (pOpen_sp hC4 (hG.starL 0 rfl) hP2 (by omega) [97] (by simp) true) rfl ?_
  rintro e w4 ⟨_, rfl, rfl, hS4⟩; refine ⟨_, rfl, ?_⟩
  replace hS4 := hS4.join rfl; dsimp only [List.dropLast, List.cons_append, List.nil_append] at hS4; clear hC4
  clear hS3
  have m3 := opnG g2 (by decide) (by decide) true
  have hP3 := hP2.opn (id := [97]) (by simp) true
  have e3 : openE W2 [97] = 0 := m3.1
  rw [e3]
  have g3 : gP (openP W2 [97] true) [97] = some ⟨[], 1, 1⟩ := m3.2
  generalize openP W2 [97] true = W3 at hP3 g3 hS4
  refine wl_assign rfl rfl ?_
  refine wl_nil ?_
  refine qs_seq ?_
  refine wc_seq ?_
  refine wc_region ?_
  refine wl_move rfl rfl ?_
  refine wl_makeIface nif_25 rfl rfl ?_
  have hC5 := hS4.split [0] [true, false] rfl; dsimp only [selF, pickA, nthA, List.cons_append, List.nil_append] at hC5
  refine wl_call cal_12 rfl (pRead_sp hC5 (hG.starL 0 rfl) hP3 (by omega) [97] (by simp) 5) rfl ?_
  rintro e w5 ⟨_, rfl, rfl, hS5⟩; refine ⟨_, rfl, ?_⟩
  replace hS5 := hS5.join rfl; dsimp only [List.dropLast, List.cons_append, List.nil_append] at hS5; clear hC5
  clear hS4
  have hP4 := hP3.read (id := [97]) (by simp) 5
  have e4 : readV W3 [97] 5 = ([], 2) := by unfold readV; rw [g3]; rfl
  rw [e4]
  have g4 : gP (readP W3 [97] 5) [97] = some ⟨[], 1, 1⟩ := by rw [readG g3]; rfl
  generalize readP W3 [97] 5 = W4 at hP4 g4 hS5
  refine wl_move rfl rfl ?_
  refine wl_extract rfl rfl rfl ?_
  refine wl_extract rfl rfl rfl ?_
  refine wl_assign rfl rfl ?_
  refine wl_assign rfl rfl ?_
  refine wl_nil ?_
  refine qs_seq ?_
  refine wc_sub (L' := [(6, _), (5, _), (4, _), (3, _), (2, _), (1, _), (0, _)]) (.cons rfl (.cons rfl (.cons rfl (.cons rfl (.cons rfl (.cons rfl (.cons rfl .nil))))))) ?_
  refine wc_seq ?_
  refine wc_region ?_
  refine wl_move rfl rfl ?_
  refine wl_makeIface nif_25 rfl rfl ?_
  have hC6 := hS5.split [0] [true, false] rfl; dsimp only [selF, pickA, nthA, List.cons_append, List.nil_append] at hC6
  refine wl_call cal_13 rfl (pWrite_sp hC6 (hG.starL 0 rfl) hP4 (by omega) [97] (by simp) [104, 101, 108, 108, 111] (by simp)) rfl ?_
  rintro e w6 ⟨_, rfl, rfl, hS6⟩; refine ⟨_, rfl, ?_⟩
  replace hS6 := hS6.join rfl; dsimp only [List.dropLast, List.cons_append, List.nil_append] at hS6; clear hC6
  clear hS5
  have hP5 := hP4.write (id := [97]) (by simp) [104, 101, 108, 108, 111]
  have e5 : writeV W4 [97] [104, 101, 108, 108, 111] = (5, 0) := by unfold writeV; rw [g4]; rfl
  rw [e5]
  have g5 : gP (writeP W4 [97] [104, 101, 108, 108, 111]) [97] = some ⟨[104, 101, 108, 108, 111], 1, 1⟩ := by rw [writeG g4]; rfl
  generalize writeP W4 [97] [104, 101, 108, 108, 111] = W5 at hP5 g5 hS6
  refine wl_move rfl rfl ?_
  refine wl_extract rfl rfl rfl ?_
  refine wl_extract rfl rfl rfl ?_
  refine wl_assign rfl rfl ?_
  refine wl_assign rfl rfl ?_
  refine wl_nil ?_
  refine qs_seq ?_
  refine wc_sub (L' := [(8, _), (7, _), (6, _), (5, _), (4, _), (3, _), (2, _), (1, _), (0, _)]) (.cons rfl (.cons rfl (.cons rfl (.cons rfl (.cons rfl (.cons rfl (.cons rfl (.cons rfl (.cons rfl .nil))))))))) ?_
  refine wc_seq ?_
  refine wc_region ?_
  refine wl_move rfl rfl ?_
  refine wl_makeIface nif_25 rfl rfl ?_
  have hC7 := hS6.split [0] [true, false] rfl; dsimp only [selF, pickA, nthA, List.cons_append, List.nil_append] at hC7
  refine wl_call cal_12 rfl (pRead_sp hC7 (hG.starL 0 rfl) hP5 (by omega) [97] (by simp) 2) rfl ?_
  rintro e w7 ⟨_, rfl, rfl, hS7⟩; refine ⟨_, rfl, ?_⟩
  replace hS7 := hS7.join rfl; dsimp only [List.dropLast, List.cons_append, List.nil_append] at hS7; clear hC7
  clear hS6
  have hP6 := hP5.read (id := [97]) (by simp) 2
  have e6 : readV W5 [97] 2 = ([104, 101], 0) := by unfold readV; rw [g5]; rfl
  rw [e6]
  have g6 : gP (readP W5 [97] 2) [97] = some ⟨[108, 108, 111], 1, 1⟩ := by rw [readG g5]; rfl
  generalize readP W5 [97] 2 = W6 at hP6 g6 hS7
  refine wl_move rfl rfl ?_
  refine wl_extract rfl rfl rfl ?_
  refine wl_extract rfl rfl rfl ?_
  refine wl_assign rfl rfl ?_
  refine wl_assign rfl rfl ?_
  refine wl_nil ?_
  refine qs_seq ?_
  refine wc_sub (L' := [(10, _), (9, _), (8, _), (7, _), (6, _), (5, _), (4, _), (3, _), (2, _), (1, _), (0, _)]) (.cons rfl (.cons rfl (.cons rfl (.cons rfl (.cons rfl (.cons rfl (.cons rfl (.cons rfl (.cons rfl (.cons rfl (.cons rfl .nil))))))))))) ?_
  refine wc_seq ?_
  refine wc_region ?_
  refine wl_move rfl rfl ?_
  refine wl_makeIface nif_25 rfl rfl ?_
  have hC8 := hS7.split [0] [true, false] rfl; dsimp only [selF, pickA, nthA, List.cons_append, List.nil_append] at hC8
  refine wl_call cal_12 rfl (pRead_sp hC8 (hG.starL 0 rfl) hP6 (by omega) [97] (by simp) 9) rfl ?_
  rintro e w8 ⟨_, rfl, rfl, hS8⟩; refine ⟨_, rfl, ?_⟩
  replace hS8 := hS8.join rfl; dsimp only [List.dropLast, List.cons_append, List.nil_append] at hS8; clear hC8
  clear hS7
  have hP7 := hP6.read (id := [97]) (by simp) 9
  have e7 : readV W6 [97] 9 = ([108, 108, 111], 0) := by unfold readV; rw [g6]; rfl
  rw [e7]
  have g7 : gP (readP W6 [97] 9) [97] = some ⟨[], 1, 1⟩ := by rw [readG g6]; rfl
  generalize readP W6 [97] 9 = W7 at hP7 g7 hS8
  refine wl_move rfl rfl ?_
  refine wl_extract rfl rfl rfl ?_
  refine wl_extract rfl rfl rfl ?_
  refine wl_assign rfl rfl ?_
  refine wl_assign rfl rfl ?_
  refine wl_nil ?_
  refine qs_seq ?_
  refine wc_sub (L' := [(12, _), (11, _), (10, _), (9, _), (8, _), (7, _), (6, _), (5, _), (4, _), (3, _), (2, _), (1, _), (0, _)]) (.cons rfl (.cons rfl (.cons rfl (.cons rfl (.cons rfl (.cons rfl (.cons rfl (.cons rfl (.cons rfl (.cons rfl (.cons rfl (.cons rfl (.cons rfl .nil))))))))))))) ?_
  refine wc_seq ?_
  refine wc_region ?_
  refine wl_move rfl rfl ?_
  refine wl_makeIface nif_25 rfl rfl ?_
  have hC9 := hS8.split [0] [true, false] rfl; dsimp only [selF, pickA, nthA, List.cons_append, List.nil_append] at hC9
  refine wl_call cal_16 rfl (pClose_sp hC9 (hG.starL 0 rfl) hP7 (by omega) [97] (by simp) true) rfl ?_
  rintro e w9 ⟨_, rfl, rfl, hS9⟩; refine ⟨_, rfl, ?_⟩
  replace hS9 := hS9.join rfl; dsimp only [List.dropLast, List.cons_append, List.nil_append] at hS9; clear hC9
  clear hS8
  have m8 := clsG g7 true (by decide)
  have hP8 := hP7.cls (id := [97]) (by simp) true
  have e8 : closeE W7 [97] true = 0 := m8.1
  rw [e8]
  have g8 : gP (closeP W7 [97] true) [97] = some ⟨[], 1, 0⟩ := m8.2
  generalize closeP W7 [97] true = W8 at hP8 g8 hS9
  refine wl_assign rfl rfl ?_
  refine wl_nil ?_
  refine qs_seq ?_
  refine wc_sub (L' := [(13, _), (12, _), (11, _), (10, _), (9, _), (8, _), (7, _), (6, _), (5, _), (4, _), (3, _), (2, _), (1, _), (0, _)]) (.cons rfl (.cons rfl (.cons rfl (.cons rfl (.cons rfl (.cons rfl (.cons rfl (.cons rfl (.cons rfl (.cons rfl (.cons rfl (.cons rfl (.cons rfl (.cons rfl .nil)))))))))))))) ?_
  refine wc_seq ?_
  refine wc_region ?_
  refine wl_move rfl rfl ?_
  refine wl_makeIface nif_25 rfl rfl ?_
  have hC10 := hS9.split [0] [true, false] rfl; dsimp only [selF, pickA, nthA, List.cons_append, List.nil_append] at hC10
  refine wl_call cal_12 rfl (pRead_sp hC10 (hG.starL 0 rfl) hP8 (by omega) [97] (by simp) 1) rfl ?_
  rintro e w10 ⟨_, rfl, rfl, hS10⟩; refine ⟨_, rfl, ?_⟩
  replace hS10 := hS10.join rfl; dsimp only [List.dropLast, List.cons_append, List.nil_append] at hS10; clear hC10
  clear hS9
  have hP9 := hP8.read (id := [97]) (by simp) 1
  have e9 : readV W8 [97] 1 = ([], 1) := by unfold readV; rw [g8]; rfl
  rw [e9]
  have g9 : gP (readP W8 [97] 1) [97] = some ⟨[], 1, 0⟩ := by rw [readG g8]; rfl
  generalize readP W8 [97] 1 = W9 at hP9 g9 hS10
  refine wl_move rfl rfl ?_
  refine wl_extract rfl rfl rfl ?_
  refine wl_extract rfl rfl rfl ?_
  refine wl_assign rfl rfl ?_
  refine wl_assign rfl rfl ?_
  refine wl_nil ?_
  refine qs_seq ?_
  refine wc_sub (L' := [(15, _), (14, _), (13, _), (12, _), (11, _), (10, _), (9, _), (8, _), (7, _), (6, _), (5, _), (4, _), (3, _), (2, _), (1, _), (0, _)]) (.cons rfl (.cons rfl (.cons rfl (.cons rfl (.cons rfl (.cons rfl (.cons rfl (.cons rfl (.cons rfl (.cons rfl (.cons rfl (.cons rfl (.cons rfl (.cons rfl (.cons rfl (.cons rfl .nil)))))))))))))))) ?_
  refine wc_seq ?_
  refine wc_region ?_
  refine wl_move rfl rfl ?_
  refine wl_makeIface nif_25 rfl rfl ?_
  have hC11 := hS10.split [0] [true, false] rfl; dsimp only [selF, pickA, nthA, List.cons_append, List.nil_append] at hC11
  refine wl_call cal_16 rfl (pClose_sp hC11 (hG.starL 0 rfl) hP9 (by omega) [97] (by simp) false) rfl ?_
  rintro e w11 ⟨_, rfl, rfl, hS11⟩; refine ⟨_, rfl, ?_⟩
  replace hS11 := hS11.join rfl; dsimp only [List.dropLast, List.cons_append, List.nil_append] at hS11; clear hC11
  clear hS10
  have m10 := clsG g9 false (by decide)
  have hP10 := hP9.cls (id := [97]) (by simp) false
  have e10 : closeE W9 [97] false = 0 := m10.1
  rw [e10]
  have g10 : gP (closeP W9 [97] false) [97] = none := m10.2
  generalize closeP W9 [97] false = W10 at hP10 g10 hS11
  refine wl_assign rfl rfl ?_
  refine wl_nil ?_
  refine qs_seq ?_
  refine wc_sub (L' := [(16, _), (15, _), (14, _), (13, _), (12, _), (11, _), (10, _), (9, _), (8, _), (7, _), (6, _), (5, _), (4, _), (3, _), (2, _), (1, _), (0, _)]) (.cons rfl (.cons rfl (.cons rfl (.cons rfl (.cons rfl (.cons rfl (.cons rfl (.cons rfl (.cons rfl (.cons rfl (.cons rfl (.cons rfl (.cons rfl (.cons rfl (.cons rfl (.cons rfl (.cons rfl .nil))))))))))))))))) ?_
  refine wc_seq ?_
  refine wc_region ?_
  refine wl_move rfl rfl ?_
  refine wl_makeIface nif_25 rfl rfl ?_
  have hC12 := hS11.split [0] [true, false] rfl; dsimp only [selF, pickA, nthA, List.cons_append, List.nil_append] at hC12
  refine wl_call cal_14 rfl (pGet_sp hC12 (hG.starL 0 rfl) [97] (by simp) (hP10.len _)) rfl ?_
  rintro e w12 ⟨_, rfl, rfl, hS12⟩; refine ⟨_, rfl, ?_⟩
  replace hS12 := hS12.join rfl; dsimp only [List.dropLast, List.cons_append, List.nil_append] at hS12; clear hC12
  clear hS11
  have e11 : gB W10 [97] = false := gB_no g10
  rw [e11]
  refine wl_move rfl rfl ?_
  refine wl_extract rfl rfl rfl ?_
  refine wl_extract rfl rfl rfl ?_
  refine wl_alloc hS12 zr_39 rfl rfl ?_
  intro b13 w13 hS13
  clear hS12
  first | (refine wl_storeA hS13 rfl rfl sz_39 rfl (by first | rfl | (simp [allOne, Value.oneCell']; done) | assumption | exact hone) (i := 0) rfl (by first | decide | exact Nat.le_of_ble_eq_true rfl | (simp; done) | omega) ?_)
  intro w14 hS15; dsimp only [List.set] at hS15
  clear hS13
  refine wl_assign rfl rfl ?_
  refine wl_nil ?_
  refine qs_seq ?_
  refine wc_sub (L' := [(18, _), (16, _), (15, _), (14, _), (13, _), (12, _), (11, _), (10, _), (9, _), (8, _), (7, _), (6, _), (5, _), (4, _), (3, _), (2, _), (0, _)]) (.cons rfl (.cons rfl (.cons rfl (.cons rfl (.cons rfl (.cons rfl (.cons rfl (.cons rfl (.cons rfl (.cons rfl (.cons rfl (.cons rfl (.cons rfl (.cons rfl (.cons rfl (.cons rfl (.cons rfl .nil))))))))))))))))) ?_
  refine wc_seq ?_
  refine wc_region ?_
  refine wl_move rfl rfl ?_
  refine wl_eql rfl rfl rfl ?_
  refine wl_move rfl rfl ?_
  refine wl_splitD 76 rfl (fun h16 => ?_) (fun h16 => ?_)
  · skip
    refine wl_guard rfl rfl (decide_eq_true h16) ?_
    refine wl_move rfl rfl ?_
    refine wl_guard rfl rfl (decide_eq_true h16) ?_
    refine wl_eql rfl rfl rfl ?_
    refine wl_pickT rfl (decide_eq_true h16) rfl rfl ?_
    refine wl_move rfl rfl ?_
    refine wl_splitD 80 rfl (fun h17 => ?_) (fun h17 => ?_)
    · skip
      refine wl_guard rfl rfl (decide_eq_true h17) ?_
      refine wl_move rfl rfl ?_
      refine wl_guard rfl rfl (decide_eq_true h17) ?_
      refine wl_eql rfl rfl rfl ?_
      refine wl_pickT rfl (decide_eq_true h17) rfl rfl ?_
      refine wl_move rfl rfl ?_
      refine wl_splitD 84 rfl (fun h18 => ?_) (fun h18 => ?_)
      · skip
        refine wl_guard rfl rfl (decide_eq_true h18) ?_
        refine wl_move rfl rfl ?_
        refine wl_guard rfl rfl (decide_eq_true h18) ?_
        refine wl_eqlS rfl rfl rfl ?_
        refine wl_pickT rfl (decide_eq_true h18) rfl rfl ?_
        refine wl_move rfl rfl ?_
        refine wl_splitD 88 rfl (fun h19 => ?_) (fun h19 => ?_)
        · skip
          refine wl_guard rfl rfl (decide_eq_true h19) ?_
          refine wl_move rfl rfl ?_
          refine wl_guard rfl rfl (decide_eq_true h19) ?_
          refine wl_eql rfl rfl rfl ?_
          refine wl_pickT rfl (decide_eq_true h19) rfl rfl ?_
          refine wl_move rfl rfl ?_
          refine wl_splitD 92 rfl (fun h20 => ?_) (fun h20 => ?_)
          · skip
            refine wl_guard rfl rfl (decide_eq_true h20) ?_
            refine wl_move rfl rfl ?_
            refine wl_guard rfl rfl (decide_eq_true h20) ?_
            refine wl_eql rfl rfl rfl ?_
            refine wl_pickT rfl (decide_eq_true h20) rfl rfl ?_
            refine wl_move rfl rfl ?_
            refine wl_splitD 96 rfl (fun h21 => ?_) (fun h21 => ?_)
            · skip
              refine wl_guard rfl rfl (decide_eq_true h21) ?_
              refine wl_move rfl rfl ?_
              refine wl_guard rfl rfl (decide_eq_true h21) ?_
              refine wl_eql rfl rfl rfl ?_
              refine wl_pickT rfl (decide_eq_true h21) rfl rfl ?_
              refine wl_move rfl rfl ?_
              refine wl_splitD 100 rfl (fun h22 => ?_) (fun h22 => ?_)
              · skip
                refine wl_guard rfl rfl (decide_eq_true h22) ?_
                refine wl_move rfl rfl ?_
                refine wl_guard rfl rfl (decide_eq_true h22) ?_
                refine wl_eqlS rfl rfl rfl ?_
                refine wl_pickT rfl (decide_eq_true h22) rfl rfl ?_
                refine wl_move rfl rfl ?_
                refine wl_splitD 104 rfl (fun h23 => ?_) (fun h23 => ?_)
                · skip
                  refine wl_guard rfl rfl (decide_eq_true h23) ?_
                  refine wl_move rfl rfl ?_
                  refine wl_guard rfl rfl (decide_eq_true h23) ?_
                  refine wl_eql rfl rfl rfl ?_
                  refine wl_pickT rfl (decide_eq_true h23) rfl rfl ?_
                  refine wl_assign rfl rfl ?_
                  refine wl_nil ?_
                  refine qs_seq ?_
                  refine wc_sub (L' := [(19, _), (18, _), (16, _), (15, _), (14, _), (13, _), (12, _), (11, _), (0, _)]) (.cons rfl (.cons rfl (.cons rfl (.cons rfl (.cons rfl (.cons rfl (.cons rfl (.cons rfl (.cons rfl .nil))))))))) ?_
                  refine wc_seq ?_
                  refine wc_region ?_
                  refine wl_move rfl rfl ?_
                  refine wl_move rfl rfl ?_
                  refine wl_splitD 109 rfl (fun h24 => ?_) (fun h24 => ?_)
                  · skip
                    refine wl_guard rfl rfl (decide_eq_true h24) ?_
                    refine wl_move rfl rfl ?_
                    refine wl_guard rfl rfl (decide_eq_true h24) ?_
                    refine wl_eqlS rfl rfl rfl ?_
                    refine wl_pickT rfl (decide_eq_true h24) rfl rfl ?_
                    refine wl_move rfl rfl ?_
                    refine wl_splitD 113 rfl (fun h25 => ?_) (fun h25 => ?_)
                    · skip
                      refine wl_guard rfl rfl (decide_eq_true h25) ?_
                      refine wl_move rfl rfl ?_
                      refine wl_guard rfl rfl (decide_eq_true h25) ?_
                      refine wl_eql rfl rfl rfl ?_
                      refine wl_pickT rfl (decide_eq_true h25) rfl rfl ?_
                      refine wl_move rfl rfl ?_
                      refine wl_splitD 117 rfl (fun h26 => ?_) (fun h26 => ?_)
                      · skip
                        refine wl_guard rfl rfl (decide_eq_true h26) ?_
                        refine wl_move rfl rfl ?_
                        refine wl_guard rfl rfl (decide_eq_true h26) ?_
                        refine wl_eql rfl rfl rfl ?_
                        refine wl_pickT rfl (decide_eq_true h26) rfl rfl ?_
                        refine wl_move rfl rfl ?_
                        refine wl_splitD 121 rfl (fun h27 => ?_) (fun h27 => ?_)
                        · skip
                          refine wl_guard rfl rfl (decide_eq_true h27) ?_
                          refine wl_move rfl rfl ?_
                          refine wl_guard rfl rfl (decide_eq_true h27) ?_
                          refine wl_eqlS rfl rfl rfl ?_
                          refine wl_pickT rfl (decide_eq_true h27) rfl rfl ?_
                          refine wl_move rfl rfl ?_
                          refine wl_splitD 125 rfl (fun h28 => ?_) (fun h28 => ?_)
                          · skip
                            refine wl_guard rfl rfl (decide_eq_true h28) ?_
                            refine wl_move rfl rfl ?_
                            refine wl_guard rfl rfl (decide_eq_true h28) ?_
                            refine wl_eql rfl rfl rfl ?_
                            refine wl_pickT rfl (decide_eq_true h28) rfl rfl ?_
                            refine wl_move rfl rfl ?_
                            refine wl_splitD 129 rfl (fun h29 => ?_) (fun h29 => ?_)
                            · skip
                              refine wl_guard rfl rfl (decide_eq_true h29) ?_
                              refine wl_move rfl rfl ?_
                              refine wl_guard rfl rfl (decide_eq_true h29) ?_
                              refine wl_eql rfl rfl rfl ?_
                              refine wl_pickT rfl (decide_eq_true h29) rfl rfl ?_
                              refine wl_move rfl rfl ?_
                              refine wl_splitD 133 rfl (fun h30 => ?_) (fun h30 => ?_)
                              · skip
                                refine wl_guard rfl rfl (decide_eq_true h30) ?_
                                refine wl_move rfl rfl ?_
                                refine wl_guard rfl rfl (decide_eq_true h30) ?_
                                refine wl_not rfl rfl ?_
                                refine wl_pickT rfl (decide_eq_true h30) rfl rfl ?_
                                refine wl_assign rfl rfl ?_
                                refine wl_nil ?_
                                refine qs_seq ?_
                                refine wc_sub (L' := [(0, _)]) (.cons rfl .nil) ?_
                                refine wc_ret ?_
                                refine fin1 (.inr rfl) rfl rfl ?_
                                exact ⟨_, rfl, by first | rfl | decide | simp, hS15.pick [2] rfl⟩
                              · skip
                                exact absurd (by decide) h30
                            · skip
                              exact absurd (by decide) h29
                          · skip
                            exact absurd (by decide) h28
                        · skip
                          exact absurd (by decide) h27
                      · skip
                        exact absurd (by decide) h26
                    · skip
                      exact absurd (by decide) h25
                  · skip
                    exact absurd (by decide) h24
                · skip
                  exact absurd (by decide) h23
              · skip
                exact absurd (by decide) h22
            · skip
              exact absurd (by decide) h21
          · skip
            exact absurd (by decide) h20
        · skip
          exact absurd (by decide) h19
      · skip
        exact absurd (by decide) h18
    · skip
      exact absurd (by decide) h17
  · skip
    exact absurd (by decide) h16

set_option maxRecDepth 100000 in
set_option maxHeartbeats 2000000 in
theorem flow_law {w : World} {F : Th} (hS : Sat w [F]) (hG : Ent F WireG) {lv : Value} {l : List OpP} (hL : Ent F (RdL oC lv l)) :
    Calls Tryd.prog 3 #[lv] w (Ret fun v w' => v = .bool true ∧ Sat w' [F]) := by
  obtain ⟨ao, cap, rfl, hmax⟩ := (hL.sat hS 0 rfl).shape
  refine calls_enter Tryd.func3 rfl Tryd.ntmps3 rfl ?_
  refine wc_seq ?_
  refine wc_region ?_
  refine wl_assign rfl rfl ?_
  refine wl_nil ?_
  refine qs_seq ?_
  refine wc_seq ?_
  refine wc_region ?_
  have hC1 := hS.split [] [false] rfl; dsimp only [selF, pickA, nthA, List.cons_append, List.nil_append] at hC1
  refine wl_call cal_5 rfl (psmall_sp hC1 (hG.starL 0 rfl)) rfl ?_
  rintro e w1 ⟨_, rfl, rfl, hS1⟩; refine ⟨_, rfl, ?_⟩
  replace hS1 := hS1.join rfl; dsimp only [List.dropLast, List.cons_append, List.nil_append] at hS1; clear hC1
  refine wl_assign rfl rfl ?_
  refine wl_nil ?_
  refine qs_seq ?_
  refine wc_seq ?_
  refine wc_seq ?_
  refine wc_region ?_
  refine wl_move rfl rfl ?_
  have hC2 := hS1.split [] [false] rfl; dsimp only [selF, pickA, nthA, List.cons_append, List.nil_append] at hC2
  refine wl_call cal_6 rfl (pfew_sp hC2 (hL.starL 0 rfl) 100) rfl ?_
  rintro e w2 ⟨_, rfl, rfl, hS2⟩; refine ⟨_, rfl, ?_⟩
  replace hS2 := hS2.join rfl; dsimp only [List.dropLast, List.cons_append, List.nil_append] at hS2; clear hC2
  clear hS1
  refine wl_not rfl rfl ?_
  refine wl_nil ?_
  refine qs_seq ?_
  refine wc_cond rfl (fun h3 => ?_) (fun h3 => ?_)
  · skip
    refine wc_seq ?_
    refine wc_region ?_
    refine wl_move rfl rfl ?_
    refine wl_assign rfl rfl ?_
    refine wl_nil ?_
    refine qs_seq ?_
    refine wc_ret ?_
    refine qs_then_ret ?_
    refine fin1 (.inr rfl) rfl rfl ?_
    exact ⟨_, rfl, by first | rfl | simp, hS2.pick [0] rfl⟩
  · skip
    have hfew : fewO 100 l = true := by simpa using h3
    have hll := fewO_len hfew
    refine wc_skip ?_
    refine qs_seq ?_
    refine wc_seq ?_
    refine wc_region ?_
    have hC4 := hS2.split [] [false] rfl; dsimp only [selF, pickA, nthA, List.cons_append, List.nil_append] at hC4
    refine wl_call cal_7 rfl (new_sp hC4) rfl ?_
    rintro e w4 ⟨_, rfl, p, rfl, hS4⟩; refine ⟨_, rfl, ?_⟩
    replace hS4 := hS4.join rfl; dsimp only [List.dropLast, List.cons_append, List.nil_append] at hS4; clear hC4
    clear hS2
    refine wl_assign rfl rfl ?_
    refine wl_nil ?_
    refine qs_seq ?_
    refine wc_seq ?_
    refine wc_seq ?_
    refine wc_region ?_
    refine wl_move rfl rfl ?_
    refine wl_eqlNil Tryd.underlying25 rfl rfl rfl ?_
    refine wl_nil ?_
    refine qs_seq ?_
    refine wc_sub (L' := [(24, _), (4, _), (3, _), (2, _), (0, _)]) (.cons rfl (.cons rfl (.cons rfl (.cons rfl (.cons rfl .nil))))) ?_
    refine wc_condF rfl ?_
    refine wc_skip ?_
    refine qs_seq ?_
    refine wc_seq ?_
    refine wc_region ?_
    refine wl_move rfl rfl ?_
    refine wl_makeIface nif_25 rfl rfl ?_
    have hC5 := hS4.split [0] [true, false] rfl; dsimp only [selF, pickA, nthA, List.cons_append, List.nil_append] at hC5
    refine wl_call cal_8 rfl (pMake_sp hC5 (hG.starL 0 rfl) PI.empty (by omega) [120] (by simp)) rfl ?_
    rintro e w5 ⟨_, rfl, rfl, hS5⟩; refine ⟨_, rfl, ?_⟩
    replace hS5 := hS5.join rfl; dsimp only [List.dropLast, List.cons_append, List.nil_append] at hS5; clear hC5
    clear hS4
    have m1 := mkG (id := [120]) (by simp) (gP_empty _) (by rw [keyN_empty]; decide)
    have hP1 := PI.empty.make (id := [120]) (by simp) (keyN emptyW)
    have g1 := m1.2
    generalize mkP emptyW [120] (keyN emptyW) = W1 at hP1 g1 hS5
    refine wl_nil ?_
    refine qs_seq ?_
    refine wc_seq ?_
    refine wc_region ?_
    refine wl_move rfl rfl ?_
    refine wl_makeIface nif_25 rfl rfl ?_
    have hC6 := hS5.split [0] [true, false] rfl; dsimp only [selF, pickA, nthA, List.cons_append, List.nil_append] at hC6
    refine wl_call cal_9 rfl (pOpen_sp hC6 (hG.starL 0 rfl) hP1 (by omega) [120] (by simp) false) rfl ?_
    rintro e w6 ⟨_, rfl, rfl, hS6⟩; refine ⟨_, rfl, ?_⟩
    replace hS6 := hS6.join rfl; dsimp only [List.dropLast, List.cons_append, List.nil_append] at hS6; clear hC6
    clear hS5
    have m2 := opnG g1 (by decide) (by decide) false
    have hP2 := hP1.opn (id := [120]) (by simp) false
    have g2 : gP (openP W1 [120] false) [120] = some ⟨[], 1, 0⟩ := m2.2
    generalize openP W1 [120] false = W2 at hP2 g2 hS6
    refine wl_nil ?_
    refine qs_seq ?_
    refine wc_sub (L' := [(4, _), (3, _), (2, _), (0, _)]) (.cons rfl (.cons rfl (.cons rfl (.cons rfl .nil)))) ?_
    refine wc_seq ?_
    refine wc_region ?_
    refine wl_move rfl rfl ?_
    refine wl_makeIface nif_25 rfl rfl ?_
    have hC7 := hS6.split [0] [true, false] rfl; dsimp only [selF, pickA, nthA, List.cons_append, List.nil_append] at hC7
    refine wl_call cal_9 rfl (pOpen_sp hC7 (hG.starL 0 rfl) hP2 (by omega) [120] (by simp) true) rfl ?_
    rintro e w7 ⟨_, rfl, rfl, hS7⟩; refine ⟨_, rfl, ?_⟩
    replace hS7 := hS7.join rfl; dsimp only [List.dropLast, List.cons_append, List.nil_append] at hS7; clear hC7
    clear hS6
    have m3 := opnG g2 (by decide) (by decide) true
    have hP3 := hP2.opn (id := [120]) (by simp) true
    have g3 : gP (openP W2 [120] true) [120] = some ⟨[], 1, 1⟩ := m3.2
    generalize openP W2 [120] true = W3 at hP3 g3 hS7
    refine wl_nil ?_
    refine qs_seq ?_
    refine wc_seq ?_
    refine wc_region ?_
    refine wl_assign rfl rfl ?_
    refine wl_nil ?_
    refine qs_seq ?_
    refine wc_seq ?_
    refine wc_region ?_
    refine wl_assign rfl rfl ?_
    refine wl_nil ?_
    refine qs_seq ?_
    refine wc_seq ?_
    refine wc_seq ?_
    refine wc_region ?_
    refine wl_assign rfl rfl ?_
    refine wl_nil ?_
    refine qs_seq ?_
    refine wc_block ?_
    refine wc_loop (fun K0 E0 W0 => ∃ (i : Nat) (rd : Bs) (wt : Bs) (x : PipeD) (W : WS), K0 = l.length - i ∧ E0 = [(0, .slice ao l.length cap), (3, .bool true), (4, ptrV p 0), (5, strV wt), (6, strV rd), (7, intV (i : Int))] ∧ Sat W0 [worldT p W, F] ∧ (i ≤ l.length) ∧ (PI W (i + 3)) ∧ (gP W [120] = some x) ∧ (x.r = 1 ∧ x.w = 1) ∧ (rd ++ x.d = wt) ∧ (wt.length ≤ 200 * i)) (L0 := [(0, _), (3, _), (4, _), (5, _), (6, _), (7, _)]) (l.length - 0) (.cons rfl (.cons rfl (.cons rfl (.cons rfl (.cons rfl (.cons rfl .nil)))))) ⟨0, [], [], _, _, rfl, rfl, hS7, by omega, hP3, g3, ⟨rfl, rfl⟩, rfl, by simp⟩ ?_
    rintro _ _ w8 ⟨i, rd, wt, x, W, rfl, rfl, hS8, hi, hP, hx, hx1, hrw, hwl⟩
    have hrwl := congrArg List.length hrw
    simp only [List.length_append] at hrwl
    have hox := gP_ok hx
    refine wc_seq ?_
    refine wc_seq ?_
    refine wc_region ?_
    refine wl_move rfl rfl ?_
    refine wl_move rfl rfl ?_
    refine wl_lenL Tryd.underlying22 rfl rfl ?_
    refine wl_lss rfl rfl rfl ?_
    refine wl_nil ?_
    refine qs_seq ?_
    refine wc_condD rfl (fun h9 => ?_) (fun h9 => ?_)
    · skip
      obtain ⟨o, ho⟩ : ∃ o, l[i]? = some o := ⟨_, List.getElem?_eq_getElem (by omega)⟩
      obtain ⟨b, off, rfl, hc⟩ := (hL.sat hS8 1 rfl).get ho
      have hos := fewO_get hfew ho
      refine wc_skip ?_
      refine qs_seq ?_
      refine wc_seq ?_
      refine wc_block ?_
      refine wc_seq ?_
      refine wc_region ?_
      refine wl_move rfl rfl ?_
      refine wl_move rfl rfl ?_
      refine wl_indexAddr i rfl rfl (by first | rfl | omega) (by omega) es_22 rfl ?_
      refine wl_loadAt rfl ag_31 sz_31 (vs := oV o) hc rfl ?_
      refine wl_alloc hS8 zr_31 rfl rfl ?_
      intro b10 w10 hS10
      clear hS8
      first | (refine wl_storeA hS10 rfl rfl sz_31 rfl (by first | rfl | (simp [allOne, Value.oneCell']; done) | assumption | exact hone) (i := 0) rfl (by first | decide | exact Nat.le_of_ble_eq_true rfl | (simp; done) | omega) ?_)
      intro w11 hS12; dsimp only [List.set] at hS12
      clear hS10
      refine wl_nil ?_
      refine qs_seq ?_
      refine wc_sub (L' := [(8, _), (0, _), (3, _), (4, _), (5, _), (6, _), (7, _)]) (.cons rfl (.cons rfl (.cons rfl (.cons rfl (.cons rfl (.cons rfl (.cons rfl .nil))))))) ?_
      refine wc_mid (fun E0 W0 => ∃ (rd2 : Bs) (wt2 : Bs) (y : PipeD) (W2 : WS), E0 = [(0, .slice (some ⟨b, off, none⟩) l.length cap), (3, .bool true), (4, ptrV p 0), (5, strV wt2), (6, strV rd2), (7, intV (i : Int))] ∧ Sat W0 [worldT p W2, F] ∧ (PI W2 (i + 1 + 3)) ∧ (gP W2 [120] = some y) ∧ (y.r = 1 ∧ y.w = 1) ∧ (rd2 ++ y.d = wt2) ∧ (wt2.length ≤ 200 * (i + 1))) ?_ ?_
      · skip
        refine wc_seq ?_
        refine wc_region ?_
        refine wl_fieldAddr rfl fo_31_0 rfl ?_
        refine wl_load rfl ag_3 (by first | assumption | exact hS12.cell 0 rfl rfl) rfl ?_
        have hC14 := hS12.split [] [false, false, false] rfl; dsimp only [selF, pickA, nthA, List.cons_append, List.nil_append] at hC14
        refine wl_call cal_10 rfl (pick_sp hC14 o.k 2 (by omega)) rfl ?_
        rintro e w14 ⟨_, rfl, rfl, hS14⟩; refine ⟨_, rfl, ?_⟩
        replace hS14 := hS14.join rfl; dsimp only [List.dropLast, List.cons_append, List.nil_append] at hS14; clear hC14
        clear hS12
        refine wl_eql rfl rfl rfl ?_
        refine wl_nil ?_
        refine qs_seq ?_
        refine wc_sub (L' := [(47, _), (8, _), (0, _), (3, _), (4, _), (5, _), (6, _), (7, _)]) (.cons rfl (.cons rfl (.cons rfl (.cons rfl (.cons rfl (.cons rfl (.cons rfl (.cons rfl .nil)))))))) ?_
        refine wc_condD rfl (fun h15 => ?_) (fun h15 => ?_)
        · skip
          refine wc_seq ?_
          refine wc_region ?_
          refine wl_move rfl rfl ?_
          refine wl_makeIface nif_25 rfl rfl ?_
          refine wl_fieldAddr rfl fo_31_3 rfl ?_
          refine wl_load rfl ag_3 (by first | assumption | exact hS14.cell 0 rfl rfl) rfl ?_
          have hC16 := hS14.split [1] [false, true, false] rfl; dsimp only [selF, pickA, nthA, List.cons_append, List.nil_append] at hC16
          refine wl_call cal_11 rfl (pCan_sp hC16 (hG.starL 1 rfl) hP (by omega) [120] (by simp) false o.n) rfl ?_
          rintro e w16 ⟨_, rfl, rfl, hS16⟩; refine ⟨_, rfl, ?_⟩
          replace hS16 := hS16.join rfl; dsimp only [List.dropLast, List.cons_append, List.nil_append] at hS16; clear hC16
          clear hS14
          refine wl_assign rfl rfl ?_
          refine wl_nil ?_
          refine qs_seq ?_
          refine wc_sub (L' := [(9, _), (8, _), (0, _), (3, _), (4, _), (5, _), (6, _), (7, _)]) (.cons rfl (.cons rfl (.cons rfl (.cons rfl (.cons rfl (.cons rfl (.cons rfl (.cons rfl .nil)))))))) ?_
          refine wc_seq ?_
          refine wc_region ?_
          refine wl_move rfl rfl ?_
          refine wl_makeIface nif_25 rfl rfl ?_
          refine wl_fieldAddr rfl fo_31_3 rfl ?_
          refine wl_load rfl ag_3 (by first | assumption | exact hS16.cell 1 rfl rfl) rfl ?_
          have hC17 := hS16.split [0] [true, false, false] rfl; dsimp only [selF, pickA, nthA, List.cons_append, List.nil_append] at hC17
          refine wl_call cal_12 rfl (pRead_sp hC17 (hG.starL 1 rfl) hP (by omega) [120] (by simp) o.n) rfl ?_
          rintro e w17 ⟨_, rfl, rfl, hS17⟩; refine ⟨_, rfl, ?_⟩
          replace hS17 := hS17.join rfl; dsimp only [List.dropLast, List.cons_append, List.nil_append] at hS17; clear hC17
          clear hS16
          obtain ⟨y, hy, hyd, hyr, hyw⟩ := readP_ok (n := o.n) hx
          have hyl := congrArg List.length hyd
          simp only [List.length_append] at hyl
          obtain ⟨hf1, hf2, hf3⟩ := read_flow hx (by omega) o.n
          rw [hf2]
          refine wl_move rfl rfl ?_
          refine wl_extract rfl rfl rfl ?_
          refine wl_extract rfl rfl rfl ?_
          refine wl_assign rfl rfl ?_
          refine wl_assign rfl rfl ?_
          refine wl_nil ?_
          refine qs_seq ?_
          refine wc_sub (L' := [(11, _), (10, _), (9, _), (8, _), (0, _), (3, _), (4, _), (5, _), (6, _), (7, _)]) (.cons rfl (.cons rfl (.cons rfl (.cons rfl (.cons rfl (.cons rfl (.cons rfl (.cons rfl (.cons rfl (.cons rfl .nil)))))))))) ?_
          refine wc_seq ?_
          refine wc_region ?_
          refine wl_move rfl rfl ?_
          refine wl_move rfl rfl ?_
          refine wl_concat rfl rfl (by first | omega | (simp; omega)) rfl ?_
          refine wl_assign rfl rfl ?_
          refine wl_nil ?_
          refine qs_seq ?_
          refine wc_sub (L' := [(6, _), (11, _), (10, _), (9, _), (8, _), (0, _), (3, _), (4, _), (5, _), (7, _)]) (.cons rfl (.cons rfl (.cons rfl (.cons rfl (.cons rfl (.cons rfl (.cons rfl (.cons rfl (.cons rfl (.cons rfl .nil)))))))))) ?_
          refine wc_seq ?_
          refine wc_region ?_
          refine wl_move rfl rfl ?_
          refine wl_lenS Tryd.underlying9 rfl rfl ?_
          refine wl_fieldAddr rfl fo_31_3 rfl ?_
          refine wl_load rfl ag_3 (by first | assumption | exact hS17.cell 1 rfl rfl) rfl ?_
          refine wl_maxI rfl rfl rfl ?_
          refine wl_gtr rfl rfl rfl ?_
          refine wl_move rfl rfl ?_
          refine wl_splitD 70 rfl (fun h18 => ?_) (fun h18 => ?_)
          · skip
            omega
          · skip
            refine wl_guard rfl rfl (decide_eq_false h18) ?_
            refine wl_move rfl rfl ?_
            refine wl_guard rfl rfl (decide_eq_false h18) ?_
            refine wl_move rfl rfl ?_
            refine wl_guard rfl rfl (decide_eq_false h18) ?_
            refine wl_neq rfl rfl rfl ?_
            refine wl_guard rfl rfl (decide_eq_false h18) ?_
            refine wl_neqB Tryd.underlying4 rfl rfl rfl ?_
            refine wl_pickF rfl (decide_eq_false h18) rfl rfl ?_
            refine wl_move rfl rfl ?_
            refine wl_split 76 rfl (fun h19 => ?_) (fun h19 => ?_)
            · skip
              simp at h19
            · skip
              refine wl_guard rfl rfl h19 ?_
              refine wl_move rfl rfl ?_
              refine wl_guard rfl rfl h19 ?_
              refine wl_eql rfl rfl rfl ?_
              refine wl_pickF rfl h19 rfl rfl ?_
              refine wl_nil ?_
              refine qs_seq ?_
              refine wc_sub (L' := [(79, _), (6, _), (0, _), (3, _), (4, _), (5, _), (7, _)]) (.cons rfl (.cons rfl (.cons rfl (.cons rfl (.cons rfl (.cons rfl (.cons rfl .nil))))))) ?_
              refine wc_condD rfl (fun h20 => ?_) (fun h20 => ?_)
              · skip
                exact absurd h20 (by omega)
              · skip
                refine wc_skip ?_
                exact qs_mid (.cons rfl (.cons rfl (.cons rfl (.cons rfl (.cons rfl (.cons rfl .nil)))))) ⟨_, _, _, _, rfl, hS17.pick [0, 2] rfl, hP.read (by simp) o.n, hy, ⟨by omega, by omega⟩, by rw [List.append_assoc, hyd]; exact hrw, by omega⟩
        · skip
          refine wc_seq ?_
          refine wc_region ?_
          refine wl_move rfl rfl ?_
          refine wl_makeIface nif_25 rfl rfl ?_
          refine wl_fieldAddr rfl fo_31_4 rfl ?_
          refine wl_load rfl ag_9 (by first | assumption | exact hS14.cell 0 rfl rfl) rfl ?_
          refine wl_lenS Tryd.underlying9 rfl rfl ?_
          have hC21 := hS14.split [1] [false, true, false] rfl; dsimp only [selF, pickA, nthA, List.cons_append, List.nil_append] at hC21
          refine wl_call cal_11 rfl (pCan_sp hC21 (hG.starL 1 rfl) hP (by omega) [120] (by simp) true o.s.length) rfl ?_
          rintro e w21 ⟨_, rfl, rfl, hS21⟩; refine ⟨_, rfl, ?_⟩
          replace hS21 := hS21.join rfl; dsimp only [List.dropLast, List.cons_append, List.nil_append] at hS21; clear hC21
          clear hS14
          refine wl_assign rfl rfl ?_
          refine wl_nil ?_
          refine qs_seq ?_
          refine wc_sub (L' := [(12, _), (8, _), (0, _), (3, _), (4, _), (5, _), (6, _), (7, _)]) (.cons rfl (.cons rfl (.cons rfl (.cons rfl (.cons rfl (.cons rfl (.cons rfl (.cons rfl .nil)))))))) ?_
          refine wc_seq ?_
          refine wc_region ?_
          refine wl_move rfl rfl ?_
          refine wl_makeIface nif_25 rfl rfl ?_
          refine wl_fieldAddr rfl fo_31_4 rfl ?_
          refine wl_load rfl ag_9 (by first | assumption | exact hS21.cell 1 rfl rfl) rfl ?_
          have hC22 := hS21.split [0] [true, false, false] rfl; dsimp only [selF, pickA, nthA, List.cons_append, List.nil_append] at hC22
          refine wl_call cal_13 rfl (pWrite_sp hC22 (hG.starL 1 rfl) hP (by omega) [120] (by simp) o.s (by omega)) rfl ?_
          rintro e w22 ⟨_, rfl, rfl, hS22⟩; refine ⟨_, rfl, ?_⟩
          replace hS22 := hS22.join rfl; dsimp only [List.dropLast, List.cons_append, List.nil_append] at hS22; clear hC22
          clear hS21
          obtain ⟨y, hy, hyd, hyr, hyw, hn0, hn1⟩ := writeP_ok (s := o.s) hx
          obtain ⟨hf1, hf2, hf3⟩ := write_flow hx (by omega) o.s
          rw [hf2]
          refine wl_move rfl rfl ?_
          refine wl_extract rfl rfl rfl ?_
          refine wl_extract rfl rfl rfl ?_
          refine wl_assign rfl rfl ?_
          refine wl_assign rfl rfl ?_
          refine wl_nil ?_
          refine qs_seq ?_
          refine wc_sub (L' := [(14, _), (13, _), (12, _), (8, _), (0, _), (3, _), (4, _), (5, _), (6, _), (7, _)]) (.cons rfl (.cons rfl (.cons rfl (.cons rfl (.cons rfl (.cons rfl (.cons rfl (.cons rfl (.cons rfl (.cons rfl .nil)))))))))) ?_
          refine wc_seq ?_
          refine wc_seq ?_
          refine wc_region ?_
          refine wl_move rfl rfl ?_
          refine wl_lss rfl rfl rfl ?_
          refine wl_move rfl rfl ?_
          refine wl_splitD 96 rfl (fun h23 => ?_) (fun h23 => ?_)
          · skip
            exact absurd h23 (by omega)
          · skip
            refine wl_guard rfl rfl (decide_eq_false h23) ?_
            refine wl_move rfl rfl ?_
            refine wl_guard rfl rfl (decide_eq_false h23) ?_
            refine wl_fieldAddr rfl fo_31_4 rfl ?_
            refine wl_guard rfl rfl (decide_eq_false h23) ?_
            refine wl_load rfl ag_9 (by first | assumption | exact hS22.cell 1 rfl rfl) rfl ?_
            refine wl_guard rfl rfl (decide_eq_false h23) ?_
            refine wl_lenS Tryd.underlying9 rfl rfl ?_
            refine wl_guard rfl rfl (decide_eq_false h23) ?_
            refine wl_gtr rfl rfl rfl ?_
            refine wl_pickF rfl (decide_eq_false h23) rfl rfl ?_
            refine wl_move rfl rfl ?_
            refine wl_splitD 103 rfl (fun h24 => ?_) (fun h24 => ?_)
            · skip
              exact absurd h24 (by omega)
            · skip
              refine wl_guard rfl rfl (decide_eq_false h24) ?_
              refine wl_fieldAddr rfl fo_31_4 rfl ?_
              refine wl_guard rfl rfl (decide_eq_false h24) ?_
              refine wl_load rfl ag_9 (by first | assumption | exact hS22.cell 1 rfl rfl) rfl ?_
              refine wl_guard rfl rfl (decide_eq_false h24) ?_
              refine wl_lenS Tryd.underlying9 rfl rfl ?_
              refine wl_guard rfl rfl (decide_eq_false h24) ?_
              refine wl_leq rfl rfl rfl ?_
              refine wl_guard rfl rfl (decide_eq_false h24) ?_
              refine wl_move rfl rfl ?_
              refine wl_splitD 108 rfl (fun h25 => ?_) (fun h25 => ?_)
              · skip
                refine wl_guard rfl rfl (decide_eq_true h25) ?_
                refine wl_move rfl rfl ?_
                refine wl_guard rfl rfl (decide_eq_true h25) ?_
                refine wl_neq rfl rfl rfl ?_
                refine wl_guard rfl rfl (decide_eq_false h24) ?_
                refine wl_pickT rfl (decide_eq_true h25) rfl rfl ?_
                refine wl_guard rfl rfl (decide_eq_false h24) ?_
                refine wl_move rfl rfl ?_
                refine wl_splitD 112 rfl (fun h26 => ?_) (fun h26 => ?_)
                · skip
                  refine wl_guard rfl rfl (decide_eq_true h26) ?_
                  refine wl_move rfl rfl ?_
                  refine wl_guard rfl rfl (decide_eq_true h26) ?_
                  refine wl_fieldAddr rfl fo_31_4 rfl ?_
                  refine wl_guard rfl rfl (decide_eq_true h26) ?_
                  refine wl_load rfl ag_9 (by first | assumption | exact hS22.cell 1 rfl rfl) rfl ?_
                  refine wl_guard rfl rfl (decide_eq_true h26) ?_
                  refine wl_lenS Tryd.underlying9 rfl rfl ?_
                  refine wl_guard rfl rfl (decide_eq_true h26) ?_
                  refine wl_neq rfl rfl rfl ?_
                  refine wl_guard rfl rfl (decide_eq_false h24) ?_
                  refine wl_pickT rfl (decide_eq_true h26) rfl rfl ?_
                  refine wl_pickF rfl (decide_eq_false h24) rfl rfl ?_
                  refine wl_move rfl rfl ?_
                  refine wl_splitD 120 rfl (fun h27 => ?_) (fun h27 => ?_)
                  · skip
                    exact absurd h27 (by omega)
                  · skip
                    refine wl_guard rfl rfl (decide_eq_false h27) ?_
                    refine wl_move rfl rfl ?_
                    refine wl_guard rfl rfl (decide_eq_false h27) ?_
                    refine wl_move rfl rfl ?_
                    refine wl_guard rfl rfl (decide_eq_false h27) ?_
                    refine wl_neq rfl rfl rfl ?_
                    refine wl_guard rfl rfl (decide_eq_false h27) ?_
                    refine wl_neqB Tryd.underlying4 rfl rfl rfl ?_
                    refine wl_pickF rfl (decide_eq_false h27) rfl rfl ?_
                    refine wl_move rfl rfl ?_
                    refine wl_split 126 rfl (fun h28 => ?_) (fun h28 => ?_)
                    · skip
                      simp at h28
                    · skip
                      refine wl_guard rfl rfl h28 ?_
                      refine wl_move rfl rfl ?_
                      refine wl_guard rfl rfl h28 ?_
                      refine wl_eql rfl rfl rfl ?_
                      refine wl_pickF rfl h28 rfl rfl ?_
                      refine wl_nil ?_
                      refine qs_seq ?_
                      refine wc_sub (L' := [(129, _), (13, _), (8, _), (0, _), (3, _), (4, _), (5, _), (6, _), (7, _)]) (.cons rfl (.cons rfl (.cons rfl (.cons rfl (.cons rfl (.cons rfl (.cons rfl (.cons rfl (.cons rfl .nil))))))))) ?_
                      refine wc_condD rfl (fun h29 => ?_) (fun h29 => ?_)
                      · skip
                        exact absurd h29 (by omega)
                      · skip
                        refine wc_skip ?_
                        refine qs_seq ?_
                        refine wc_region ?_
                        refine wl_move rfl rfl ?_
                        refine wl_fieldAddr rfl fo_31_4 rfl ?_
                        refine wl_load rfl ag_9 (by first | assumption | exact hS22.cell 1 rfl rfl) rfl ?_
                        refine wl_move rfl rfl ?_
                        refine wl_maxI rfl rfl rfl ?_
                        refine wl_fieldAddr rfl fo_31_4 rfl ?_
                        refine wl_load rfl ag_9 (by first | assumption | exact hS22.cell 1 rfl rfl) rfl ?_
                        refine wl_lenS Tryd.underlying9 rfl rfl ?_
                        refine wl_minI rfl rfl rfl ?_
                        refine wl_sliceS 0 (writeV W [120] o.s).1.toNat Tryd.underlying9 rfl (bndN _) (bndS (writeV W [120] o.s).1.toNat _ rfl (by omega)) (by first | omega | (simp; omega)) (by first | omega | (simp; omega)) rfl ?_
                        rw [List.drop_zero]
                        refine wl_concat rfl rfl (by first | omega | (simp; omega)) rfl ?_
                        refine wl_assign rfl rfl ?_
                        refine wl_nil ?_
                        exact qs_mid (.cons rfl (.cons rfl (.cons rfl (.cons rfl (.cons rfl (.cons rfl .nil)))))) ⟨_, _, _, _, rfl, hS22.pick [0, 2] rfl, hP.write (by simp) o.s, hy, ⟨by omega, by omega⟩, by rw [hyd, ← List.append_assoc, hrw], by simp only [List.length_append, List.length_take]; omega⟩
                · skip
                  refine wl_unwanted rfl rfl (decide_eq_false h26) rfl ?_
                  refine wl_unwanted rfl rfl (decide_eq_false h26) rfl ?_
                  refine wl_unwanted rfl rfl (decide_eq_false h26) rfl ?_
                  refine wl_unwanted rfl rfl (decide_eq_false h26) rfl ?_
                  refine wl_unwanted rfl rfl (decide_eq_false h26) rfl ?_
                  refine wl_guard rfl rfl (decide_eq_false h24) ?_
                  refine wl_pickF rfl (decide_eq_false h26) rfl rfl ?_
                  refine wl_pickF rfl (decide_eq_false h24) rfl rfl ?_
                  refine wl_move rfl rfl ?_
                  refine wl_guard rfl rfl rfl ?_
                  refine wl_move rfl rfl ?_
                  refine wl_guard rfl rfl rfl ?_
                  refine wl_move rfl rfl ?_
                  refine wl_guard rfl rfl rfl ?_
                  refine wl_neq rfl rfl rfl ?_
                  refine wl_guard rfl rfl rfl ?_
                  refine wl_neqB Tryd.underlying4 rfl rfl rfl ?_
                  refine wl_pickF rfl rfl rfl rfl ?_
                  refine wl_move rfl rfl ?_
                  refine wl_split 126 rfl (fun h30 => ?_) (fun h30 => ?_)
                  · skip
                    simp at h30
                  · skip
                    refine wl_guard rfl rfl h30 ?_
                    refine wl_move rfl rfl ?_
                    refine wl_guard rfl rfl h30 ?_
                    refine wl_eql rfl rfl rfl ?_
                    refine wl_pickF rfl h30 rfl rfl ?_
                    refine wl_nil ?_
                    refine qs_seq ?_
                    refine wc_sub (L' := [(129, _), (13, _), (8, _), (0, _), (3, _), (4, _), (5, _), (6, _), (7, _)]) (.cons rfl (.cons rfl (.cons rfl (.cons rfl (.cons rfl (.cons rfl (.cons rfl (.cons rfl (.cons rfl .nil))))))))) ?_
                    refine wc_condD rfl (fun h31 => ?_) (fun h31 => ?_)
                    · skip
                      exact absurd h31 (by omega)
                    · skip
                      refine wc_skip ?_
                      refine qs_seq ?_
                      refine wc_region ?_
                      refine wl_move rfl rfl ?_
                      refine wl_fieldAddr rfl fo_31_4 rfl ?_
                      refine wl_load rfl ag_9 (by first | assumption | exact hS22.cell 1 rfl rfl) rfl ?_
                      refine wl_move rfl rfl ?_
                      refine wl_maxI rfl rfl rfl ?_
                      refine wl_fieldAddr rfl fo_31_4 rfl ?_
                      refine wl_load rfl ag_9 (by first | assumption | exact hS22.cell 1 rfl rfl) rfl ?_
                      refine wl_lenS Tryd.underlying9 rfl rfl ?_
                      refine wl_minI rfl rfl rfl ?_
                      refine wl_sliceS 0 (writeV W [120] o.s).1.toNat Tryd.underlying9 rfl (bndN _) (bndS (writeV W [120] o.s).1.toNat _ rfl (by omega)) (by first | omega | (simp; omega)) (by first | omega | (simp; omega)) rfl ?_
                      rw [List.drop_zero]
                      refine wl_concat rfl rfl (by first | omega | (simp; omega)) rfl ?_
                      refine wl_assign rfl rfl ?_
                      refine wl_nil ?_
                      exact qs_mid (.cons rfl (.cons rfl (.cons rfl (.cons rfl (.cons rfl (.cons rfl .nil)))))) ⟨_, _, _, _, rfl, hS22.pick [0, 2] rfl, hP.write (by simp) o.s, hy, ⟨by omega, by omega⟩, by rw [hyd, ← List.append_assoc, hrw], by simp only [List.length_append, List.length_take]; omega⟩
              · skip
                refine wl_unwanted rfl rfl (decide_eq_false h25) rfl ?_
                refine wl_unwanted rfl rfl (decide_eq_false h25) rfl ?_
                refine wl_guard rfl rfl (decide_eq_false h24) ?_
                refine wl_pickF rfl (decide_eq_false h25) rfl rfl ?_
                refine wl_guard rfl rfl (decide_eq_false h24) ?_
                refine wl_move rfl rfl ?_
                refine wl_unwanted rfl rfl rfl rfl ?_
                refine wl_unwanted rfl rfl rfl rfl ?_
                refine wl_unwanted rfl rfl rfl rfl ?_
                refine wl_unwanted rfl rfl rfl rfl ?_
                refine wl_unwanted rfl rfl rfl rfl ?_
                refine wl_guard rfl rfl (decide_eq_false h24) ?_
                refine wl_pickF rfl rfl rfl rfl ?_
                refine wl_pickF rfl (decide_eq_false h24) rfl rfl ?_
                refine wl_move rfl rfl ?_
                refine wl_guard rfl rfl rfl ?_
                refine wl_move rfl rfl ?_
                refine wl_guard rfl rfl rfl ?_
                refine wl_move rfl rfl ?_
                refine wl_guard rfl rfl rfl ?_
                refine wl_neq rfl rfl rfl ?_
                refine wl_guard rfl rfl rfl ?_
                refine wl_neqB Tryd.underlying4 rfl rfl rfl ?_
                refine wl_pickF rfl rfl rfl rfl ?_
                refine wl_move rfl rfl ?_
                refine wl_split 126 rfl (fun h32 => ?_) (fun h32 => ?_)
                · skip
                  simp at h32
                · skip
                  refine wl_guard rfl rfl h32 ?_
                  refine wl_move rfl rfl ?_
                  refine wl_guard rfl rfl h32 ?_
                  refine wl_eql rfl rfl rfl ?_
                  refine wl_pickF rfl h32 rfl rfl ?_
                  refine wl_nil ?_
                  refine qs_seq ?_
                  refine wc_sub (L' := [(129, _), (13, _), (8, _), (0, _), (3, _), (4, _), (5, _), (6, _), (7, _)]) (.cons rfl (.cons rfl (.cons rfl (.cons rfl (.cons rfl (.cons rfl (.cons rfl (.cons rfl (.cons rfl .nil))))))))) ?_
                  refine wc_condD rfl (fun h33 => ?_) (fun h33 => ?_)
                  · skip
                    exact absurd h33 (by omega)
                  · skip
                    refine wc_skip ?_
                    refine qs_seq ?_
                    refine wc_region ?_
                    refine wl_move rfl rfl ?_
                    refine wl_fieldAddr rfl fo_31_4 rfl ?_
                    refine wl_load rfl ag_9 (by first | assumption | exact hS22.cell 1 rfl rfl) rfl ?_
                    refine wl_move rfl rfl ?_
                    refine wl_maxI rfl rfl rfl ?_
                    refine wl_fieldAddr rfl fo_31_4 rfl ?_
                    refine wl_load rfl ag_9 (by first | assumption | exact hS22.cell 1 rfl rfl) rfl ?_
                    refine wl_lenS Tryd.underlying9 rfl rfl ?_
                    refine wl_minI rfl rfl rfl ?_
                    refine wl_sliceS 0 (writeV W [120] o.s).1.toNat Tryd.underlying9 rfl (bndN _) (bndS (writeV W [120] o.s).1.toNat _ rfl (by omega)) (by first | omega | (simp; omega)) (by first | omega | (simp; omega)) rfl ?_
                    rw [List.drop_zero]
                    refine wl_concat rfl rfl (by first | omega | (simp; omega)) rfl ?_
                    refine wl_assign rfl rfl ?_
                    refine wl_nil ?_
                    exact qs_mid (.cons rfl (.cons rfl (.cons rfl (.cons rfl (.cons rfl (.cons rfl .nil)))))) ⟨_, _, _, _, rfl, hS22.pick [0, 2] rfl, hP.write (by simp) o.s, hy, ⟨by omega, by omega⟩, by rw [hyd, ← List.append_assoc, hrw], by simp only [List.length_append, List.length_take]; omega⟩
      rintro _ w13 ⟨rd2, wt2, y, W2, rfl, hS13, hP2, hy, hy1, hrw2, hwl2⟩
      have hrwl2 := congrArg List.length hrw2
      simp only [List.length_append] at hrwl2
      have hoy := (gP_ok hy).d
      refine wc_seq ?_
      refine wc_region ?_
      refine wl_move rfl rfl ?_
      refine wl_makeIface nif_25 rfl rfl ?_
      have hC34 := hS13.split [0] [true, false] rfl; dsimp only [selF, pickA, nthA, List.cons_append, List.nil_append] at hC34
      refine wl_call cal_14 rfl (pGet_sp hC34 (hG.starL 0 rfl) [120] (by simp) (hP2.len _)) rfl ?_
      rintro e w34 ⟨_, rfl, rfl, hS34⟩; refine ⟨_, rfl, ?_⟩
      replace hS34 := hS34.join rfl; dsimp only [List.dropLast, List.cons_append, List.nil_append] at hS34; clear hC34
      clear hS13
      rw [gB_of hy, gD_of hy]
      refine wl_move rfl rfl ?_
      refine wl_extract rfl rfl rfl ?_
      refine wl_extract rfl rfl rfl ?_
      refine wl_alloc hS34 zr_39 rfl rfl ?_
      intro b35 w35 hS35
      clear hS34
      first | (refine wl_storeA hS35 rfl rfl sz_39 rfl (by first | rfl | (simp [allOne, Value.oneCell']; done) | assumption | exact hone) (i := 0) rfl (by first | decide | exact Nat.le_of_ble_eq_true rfl | (simp; done) | omega) ?_)
      intro w36 hS37; dsimp only [List.set] at hS37
      clear hS35
      refine wl_assign rfl rfl ?_
      refine wl_nil ?_
      refine qs_seq ?_
      refine wc_sub (L' := [(16, _), (15, _), (0, _), (3, _), (4, _), (5, _), (6, _), (7, _)]) (.cons rfl (.cons rfl (.cons rfl (.cons rfl (.cons rfl (.cons rfl (.cons rfl (.cons rfl .nil)))))))) ?_
      refine wc_seq ?_
      refine wc_region ?_
      refine wl_move rfl rfl ?_
      refine wl_not rfl rfl ?_
      refine wl_move rfl rfl ?_
      refine wl_split 149 rfl (fun h38 => ?_) (fun h38 => ?_)
      · skip
        simp at h38
      · skip
        refine wl_guard rfl rfl h38 ?_
        refine wl_fieldAddr rfl fo_39_0 rfl ?_
        refine wl_guard rfl rfl h38 ?_
        refine wl_load rfl ag_9 (by first | assumption | exact hS37.cell 0 rfl rfl) rfl ?_
        refine wl_guard rfl rfl h38 ?_
        refine wl_lenS Tryd.underlying9 rfl rfl ?_
        refine wl_guard rfl rfl h38 ?_
        refine wl_gtr rfl rfl rfl ?_
        refine wl_pickF rfl h38 rfl rfl ?_
        refine wl_move rfl rfl ?_
        refine wl_splitD 155 rfl (fun h39 => ?_) (fun h39 => ?_)
        · skip
          exact absurd h39 (by omega)
        · skip
          refine wl_guard rfl rfl (decide_eq_false h39) ?_
          refine wl_move rfl rfl ?_
          refine wl_guard rfl rfl (decide_eq_false h39) ?_
          refine wl_fieldAddr rfl fo_39_0 rfl ?_
          refine wl_guard rfl rfl (decide_eq_false h39) ?_
          refine wl_load rfl ag_9 (by first | assumption | exact hS37.cell 0 rfl rfl) rfl ?_
          refine wl_guard rfl rfl (decide_eq_false h39) ?_
          refine wl_concat rfl rfl (by first | omega | (simp; omega)) rfl ?_
          refine wl_guard rfl rfl (decide_eq_false h39) ?_
          refine wl_move rfl rfl ?_
          refine wl_guard rfl rfl (decide_eq_false h39) ?_
          refine wl_neqS rfl rfl rfl ?_
          refine wl_pickF rfl (decide_eq_false h39) rfl rfl ?_
          refine wl_move rfl rfl ?_
          refine wl_splitD 163 rfl (fun h40 => ?_) (fun h40 => ?_)
          · skip
            exact absurd hrw2 h40
          · skip
            refine wl_guard rfl rfl (decide_eq_false h40) ?_
            refine wl_fieldAddr rfl fo_39_1 rfl ?_
            refine wl_guard rfl rfl (decide_eq_false h40) ?_
            refine wl_load rfl ag_3 (by first | assumption | exact hS37.cell 0 rfl rfl) rfl ?_
            refine wl_guard rfl rfl (decide_eq_false h40) ?_
            refine wl_neq rfl rfl rfl ?_
            refine wl_pickF rfl (decide_eq_false h40) rfl rfl ?_
            refine wl_move rfl rfl ?_
            refine wl_splitD 168 rfl (fun h41 => ?_) (fun h41 => ?_)
            · skip
              exact absurd h41 (by omega)
            · skip
              refine wl_guard rfl rfl (decide_eq_false h41) ?_
              refine wl_fieldAddr rfl fo_39_2 rfl ?_
              refine wl_guard rfl rfl (decide_eq_false h41) ?_
              refine wl_load rfl ag_3 (by first | assumption | exact hS37.cell 0 rfl rfl) rfl ?_
              refine wl_guard rfl rfl (decide_eq_false h41) ?_
              refine wl_neq rfl rfl rfl ?_
              refine wl_pickF rfl (decide_eq_false h41) rfl rfl ?_
              refine wl_nil ?_
              refine qs_seq ?_
              refine wc_sub (L' := [(172, _), (0, _), (3, _), (4, _), (5, _), (6, _), (7, _)]) (.cons rfl (.cons rfl (.cons rfl (.cons rfl (.cons rfl (.cons rfl (.cons rfl .nil))))))) ?_
              refine wc_condD rfl (fun h42 => ?_) (fun h42 => ?_)
              · skip
                exact absurd h42 (by omega)
              · skip
                refine wc_skip ?_
                refine qs_block_normal ?_
                refine qs_seq ?_
                refine wc_region ?_
                refine wl_move rfl rfl ?_
                refine wl_add rfl rfl (by first | omega | (simp; omega)) (by first | omega | (simp; omega)) rfl ?_
                refine wl_assign rfl rfl ?_
                refine wl_nil ?_
                exact qs_round (L1 := [(0, _), (3, _), (4, _), (5, _), (6, _), (7, intV ((i + 1 : Nat) : Int))]) (.cons rfl (.cons rfl (.cons rfl (.cons rfl (.cons rfl (.cons rfl .nil)))))) (k1 := l.length - (i + 1)) (by omega) ⟨i + 1, _, _, _, _, rfl, rfl, hS37.pick [1, 2] rfl, by omega, hP2, hy, hy1, hrw2, hwl2⟩
    · skip
      refine wc_exit ?_
      refine qs_then_exit ?_
      refine qs_then_exit ?_
      refine qs_block_exit ?_
      refine qs_seq ?_
      refine wc_seq ?_
      refine wc_region ?_
      refine wl_move rfl rfl ?_
      refine wl_assign rfl rfl ?_
      refine wl_nil ?_
      refine qs_seq ?_
      refine wc_sub (L' := [(2, _)]) (.cons rfl .nil) ?_
      refine wc_ret ?_
      refine fin1 (.inr rfl) rfl rfl ?_
      exact ⟨_, rfl, by first | rfl | simp, hS8.pick [1] rfl⟩

end Go.Proofs.YtgnhfhhmipcgcaaDoor
