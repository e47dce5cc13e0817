/- laws of pipes: small, PipesFlow -/
import Derived.Test.YtgnhfhhmipcgcaaGreatDoorPq
namespace Go.Proofs.YtgnhfhhmipcgcaaGreatDoor
open Go.RowKit M
set_option linter.unusedVariables false
set_option maxRecDepth 100000 in
theorem psmall_sp {w : World} {F : Th} (hS : Sat w [F]) (hG : Ent F WireG) :
    Calls Tryz.prog 5 #[] w (Ret fun v w' => v = .bool true ∧ Sat w' [F]) := by
  refine calls_enter Tryz.func5 rfl Tryz.ntmps5 rfl ?_
  refine wc_seq ?_
  refine wc_region ?_
  refine wl_assign rfl rfl ?_
  refine wl_nil ?_
  refine qs_seq ?_
  refine wc_seq ?_
  refine wc_region ?_
  have hC1 := hS.split [] [false] rfl; dsimp only [selF, pickA, nthA, List.cons_append, List.nil_append] at hC1
  refine wl_call cal_7 rfl (new_sp hC1) rfl ?_
  rintro e w1 ⟨_, rfl, p, rfl, hS1⟩; refine ⟨_, rfl, ?_⟩
  replace hS1 := hS1.join rfl; dsimp only [List.dropLast, List.cons_append, List.nil_append] at hS1; clear hC1
  refine wl_assign rfl rfl ?_
  refine wl_nil ?_
  refine qs_seq ?_
  refine wc_seq ?_
  refine wc_seq ?_
  refine wc_region ?_
  refine wl_move rfl rfl ?_
  refine wl_eqlNil Tryz.underlying25 rfl rfl rfl ?_
  refine wl_nil ?_
  refine qs_seq ?_
  refine wc_condF rfl ?_
  refine wc_skip ?_
  refine qs_seq ?_
  refine wc_seq ?_
  refine wc_region ?_
  refine wl_move rfl rfl ?_
  refine wl_makeIface nif_25 rfl rfl ?_
  have hC2 := hS1.split [0] [true, false] rfl; dsimp only [selF, pickA, nthA, List.cons_append, List.nil_append] at hC2
  refine wl_call cal_19 rfl (pMake_sp hC2 (hG.starL 0 rfl) PI.empty (by omega) [97] (by simp)) rfl ?_
  rintro e w2 ⟨_, rfl, rfl, hS2⟩; refine ⟨_, rfl, ?_⟩
  replace hS2 := hS2.join rfl; dsimp only [List.dropLast, List.cons_append, List.nil_append] at hS2; clear hC2
  clear hS1
  have m1 := mkG (id := [97]) (by simp) (gP_empty _) (by rw [keyN_empty]; decide)
  have hP1 := PI.empty.make (id := [97]) (by simp) (keyN emptyW)
  have e1 : mkE emptyW [97] (keyN emptyW) = 0 := m1.1
  rw [e1]
  have g1 : gP (mkP emptyW [97] (keyN emptyW)) [97] = some ⟨[], 0, 0⟩ := m1.2
  generalize mkP emptyW [97] (keyN emptyW) = W1 at hP1 g1 hS2
  refine wl_assign rfl rfl ?_
  refine wl_nil ?_
  refine qs_seq ?_
  refine wc_seq ?_
  refine wc_region ?_
  refine wl_move rfl rfl ?_
  refine wl_makeIface nif_25 rfl rfl ?_
  have hC3 := hS2.split [0] [true, false] rfl; dsimp only [selF, pickA, nthA, List.cons_append, List.nil_append] at hC3
  refine wl_call cal_20 rfl (pOpen_sp hC3 (hG.starL 0 rfl) hP1 (by omega) [97] (by simp) false) rfl ?_
  rintro e w3 ⟨_, rfl, rfl, hS3⟩; refine ⟨_, rfl, ?_⟩
  replace hS3 := hS3.join rfl; dsimp only [List.dropLast, List.cons_append, List.nil_append] at hS3; clear hC3
  clear hS2
  have m2 := opnG g1 (by decide) (by decide) false
  have hP2 := hP1.opn (id := [97]) (by simp) false
  have e2 : openE W1 [97] = 0 := m2.1
  rw [e2]
  have g2 : gP (openP W1 [97] false) [97] = some ⟨[], 1, 0⟩ := m2.2
  generalize openP W1 [97] false = W2 at hP2 g2 hS3
  refine wl_assign rfl rfl ?_
  refine wl_nil ?_
  refine qs_seq ?_
  refine wc_sub (L' := [(3, _), (2, _), (1, _), (0, _)]) (.cons rfl (.cons rfl (.cons rfl (.cons rfl .nil)))) ?_
  refine wc_seq ?_
  refine wc_region ?_
  refine wl_move rfl rfl ?_
  refine wl_makeIface nif_25 rfl rfl ?_
  have hC4 := hS3.split [0] [true, false] rfl; dsimp only [selF, pickA, nthA, List.cons_append, List.nil_append] at hC4
  refine wl_call cal_20 rfl (pOpen_sp hC4 (hG.starL 0 rfl) hP2 (by omega) [97] (by simp) true) rfl ?_
  rintro e w4 ⟨_, rfl, rfl, hS4⟩; refine ⟨_, rfl, ?_⟩
  replace hS4 := hS4.join rfl; dsimp only [List.dropLast, List.cons_append, List.nil_append] at hS4; clear hC4
  clear hS3
  have m3 := opnG g2 (by decide) (by decide) true
  have hP3 := hP2.opn (id := [97]) (by simp) true
  have e3 : openE W2 [97] = 0 := m3.1
  rw [e3]
  have g3 : gP (openP W2 [97] true) [97] = some ⟨[], 1, 1⟩ := m3.2
  generalize openP W2 [97] true = W3 at hP3 g3 hS4
  refine wl_assign rfl rfl ?_
  refine wl_nil ?_
  refine qs_seq ?_
  refine wc_seq ?_
  refine wc_region ?_
  refine wl_move rfl rfl ?_
  refine wl_makeIface nif_25 rfl rfl ?_
  have hC5 := hS4.split [0] [true, false] rfl; dsimp only [selF, pickA, nthA, List.cons_append, List.nil_append] at hC5
  refine wl_call cal_24 rfl (pRead_sp hC5 (hG.starL 0 rfl) hP3 (by omega) [97] (by simp) 5) rfl ?_
  rintro e w5 ⟨_, rfl, rfl, hS5⟩; refine ⟨_, rfl, ?_⟩
  replace hS5 := hS5.join rfl; dsimp only [List.dropLast, List.cons_append, List.nil_append] at hS5; clear hC5
  clear hS4
  have hP4 := hP3.read (id := [97]) (by simp) 5
  have e4 : readV W3 [97] 5 = ([], 2) := by unfold readV; rw [g3]; rfl
  rw [e4]
  have g4 : gP (readP W3 [97] 5) [97] = some ⟨[], 1, 1⟩ := by rw [readG g3]; rfl
  generalize readP W3 [97] 5 = W4 at hP4 g4 hS5
  refine wl_move rfl rfl ?_
  refine wl_extract rfl rfl rfl ?_
  refine wl_extract rfl rfl rfl ?_
  refine wl_assign rfl rfl ?_
  refine wl_assign rfl rfl ?_
  refine wl_nil ?_
  refine qs_seq ?_
  refine wc_sub (L' := [(6, _), (5, _), (4, _), (3, _), (2, _), (1, _), (0, _)]) (.cons rfl (.cons rfl (.cons rfl (.cons rfl (.cons rfl (.cons rfl (.cons rfl .nil))))))) ?_
  refine wc_seq ?_
  refine wc_region ?_
  refine wl_move rfl rfl ?_
  refine wl_makeIface nif_25 rfl rfl ?_
  have hC6 := hS5.split [0] [true, false] rfl; dsimp only [selF, pickA, nthA, List.cons_append, List.nil_append] at hC6
  refine wl_call cal_21 rfl (pWrite_sp hC6 (hG.starL 0 rfl) hP4 (by omega) [97] (by simp) [104, 101, 108, 108, 111] (by simp)) rfl ?_
  rintro e w6 ⟨_, rfl, rfl, hS6⟩; refine ⟨_, rfl, ?_⟩
  replace hS6 := hS6.join rfl; dsimp only [List.dropLast, List.cons_append, List.nil_append] at hS6; clear hC6
  clear hS5
  have hP5 := hP4.write (id := [97]) (by simp) [104, 101, 108, 108, 111]
  have e5 : writeV W4 [97] [104, 101, 108, 108, 111] = (5, 0) := by unfold writeV; rw [g4]; rfl
  rw [e5]
  have g5 : gP (writeP W4 [97] [104, 101, 108, 108, 111]) [97] = some ⟨[104, 101, 108, 108, 111], 1, 1⟩ := by rw [writeG g4]; rfl
  generalize writeP W4 [97] [104, 101, 108, 108, 111] = W5 at hP5 g5 hS6
  refine wl_move rfl rfl ?_
  refine wl_extract rfl rfl rfl ?_
  refine wl_extract rfl rfl rfl ?_
  refine wl_assign rfl rfl ?_
  refine wl_assign rfl rfl ?_
  refine wl_nil ?_
  refine qs_seq ?_
  refine wc_sub (L' := [(8, _), (7, _), (6, _), (5, _), (4, _), (3, _), (2, _), (1, _), (0, _)]) (.cons rfl (.cons rfl (.cons rfl (.cons rfl (.cons rfl (.cons rfl (.cons rfl (.cons rfl (.cons rfl .nil))))))))) ?_
  refine wc_seq ?_
  refine wc_region ?_
  refine wl_move rfl rfl ?_
  refine wl_makeIface nif_25 rfl rfl ?_
  have hC7 := hS6.split [0] [true, false] rfl; dsimp only [selF, pickA, nthA, List.cons_append, List.nil_append] at hC7
  refine wl_call cal_24 rfl (pRead_sp hC7 (hG.starL 0 rfl) hP5 (by omega) [97] (by simp) 2) rfl ?_
  rintro e w7 ⟨_, rfl, rfl, hS7⟩; refine ⟨_, rfl, ?_⟩
  replace hS7 := hS7.join rfl; dsimp only [List.dropLast, List.cons_append, List.nil_append] at hS7; clear hC7
  clear hS6
  have hP6 := hP5.read (id := [97]) (by simp) 2
  have e6 : readV W5 [97] 2 = ([104, 101], 0) := by unfold readV; rw [g5]; rfl
  rw [e6]
  have g6 : gP (readP W5 [97] 2) [97] = some ⟨[108, 108, 111], 1, 1⟩ := by rw [readG g5]; rfl
  generalize readP W5 [97] 2 = W6 at hP6 g6 hS7
  refine wl_move rfl rfl ?_
  refine wl_extract rfl rfl rfl ?_
  refine wl_extract rfl rfl rfl ?_
  refine wl_assign rfl rfl ?_
  refine wl_assign rfl rfl ?_
  refine wl_nil ?_
  refine qs_seq ?_
  refine wc_sub (L' := [(10, _), (9, _), (8, _), (7, _), (6, _), (5, _), (4, _), (3, _), (2, _), (1, _), (0, _)]) (.cons rfl (.cons rfl (.cons rfl (.cons rfl (.cons rfl (.cons rfl (.cons rfl (.cons rfl (.cons rfl (.cons rfl (.cons rfl .nil))))))))))) ?_
  refine wc_seq ?_
  refine wc_region ?_
  refine wl_move rfl rfl ?_
  refine wl_makeIface nif_25 rfl rfl ?_
  have hC8 := hS7.split [0] [true, false] rfl; dsimp only [selF, pickA, nthA, List.cons_append, List.nil_append] at hC8
  refine wl_call cal_24 rfl (pRead_sp hC8 (hG.starL 0 rfl) hP6 (by omega) [97] (by simp) 9) rfl ?_
  rintro e w8 ⟨_, rfl, rfl, hS8⟩; refine ⟨_, rfl, ?_⟩
  replace hS8 := hS8.join rfl; dsimp only [List.dropLast, List.cons_append, List.nil_append] at hS8; clear hC8
  clear hS7
  have hP7 := hP6.read (id := [97]) (by simp) 9
  have e7 : readV W6 [97] 9 = ([108, 108, 111], 0) := by unfold readV; rw [g6]; rfl
  rw [e7]
  have g7 : gP (readP W6 [97] 9) [97] = some ⟨[], 1, 1⟩ := by rw [readG g6]; rfl
  generalize readP W6 [97] 9 = W7 at hP7 g7 hS8
  refine wl_move rfl rfl ?_
  refine wl_extract rfl rfl rfl ?_
  refine wl_extract rfl rfl rfl ?_
  refine wl_assign rfl rfl ?_
  refine wl_assign rfl rfl ?_
  refine wl_nil ?_
  refine qs_seq ?_
  refine wc_sub (L' := [(12, _), (11, _), (10, _), (9, _), (8, _), (7, _), (6, _), (5, _), (4, _), (3, _), (2, _), (1, _), (0, _)]) (.cons rfl (.cons rfl (.cons rfl (.cons rfl (.cons rfl (.cons rfl (.cons rfl (.cons rfl (.cons rfl (.cons rfl (.cons rfl (.cons rfl (.cons rfl .nil))))))))))))) ?_
  refine wc_seq ?_
  refine wc_region ?_
  refine wl_move rfl rfl ?_
  refine wl_makeIface nif_25 rfl rfl ?_
  have hC9 := hS8.split [0] [true, false] rfl; dsimp only [selF, pickA, nthA, List.cons_append, List.nil_append] at hC9
  refine wl_call cal_25 rfl (pClose_sp hC9 (hG.starL 0 rfl) hP7 (by omega) [97] (by simp) true) rfl ?_
  rintro e w9 ⟨_, rfl, rfl, hS9⟩; refine ⟨_, rfl, ?_⟩
  replace hS9 := hS9.join rfl; dsimp only [List.dropLast, List.cons_append, List.nil_append] at hS9; clear hC9
  clear hS8
  have m8 := clsG g7 true (by decide)
  have hP8 := hP7.cls (id := [97]) (by simp) true
  have e8 : closeE W7 [97] true = 0 := m8.1
  rw [e8]
  have g8 : gP (closeP W7 [97] true) [97] = some ⟨[], 1, 0⟩ := m8.2
  generalize closeP W7 [97] true = W8 at hP8 g8 hS9
  refine wl_assign rfl rfl ?_
  refine wl_nil ?_
  refine qs_seq ?_
  refine wc_sub (L' := [(13, _), (12, _), (11, _), (10, _), (9, _), (8, _), (7, _), (6, _), (5, _), (4, _), (3, _), (2, _), (1, _), (0, _)]) (.cons rfl (.cons rfl (.cons rfl (.cons rfl (.cons rfl (.cons rfl (.cons rfl (.cons rfl (.cons rfl (.cons rfl (.cons rfl (.cons rfl (.cons rfl (.cons rfl .nil)))))))))))))) ?_
  refine wc_seq ?_
  refine wc_region ?_
  refine wl_move rfl rfl ?_
  refine wl_makeIface nif_25 rfl rfl ?_
  have hC10 := hS9.split [0] [true, false] rfl; dsimp only [selF, pickA, nthA, List.cons_append, List.nil_append] at hC10
  refine wl_call cal_24 rfl (pRead_sp hC10 (hG.starL 0 rfl) hP8 (by omega) [97] (by simp) 1) rfl ?_
  rintro e w10 ⟨_, rfl, rfl, hS10⟩; refine ⟨_, rfl, ?_⟩
  replace hS10 := hS10.join rfl; dsimp only [List.dropLast, List.cons_append, List.nil_append] at hS10; clear hC10
  clear hS9
  have hP9 := hP8.read (id := [97]) (by simp) 1
  have e9 : readV W8 [97] 1 = ([], 1) := by unfold readV; rw [g8]; rfl
  rw [e9]
  have g9 : gP (readP W8 [97] 1) [97] = some ⟨[], 1, 0⟩ := by rw [readG g8]; rfl
  generalize readP W8 [97] 1 = W9 at hP9 g9 hS10
  refine wl_move rfl rfl ?_
  refine wl_extract rfl rfl rfl ?_
  refine wl_extract rfl rfl rfl ?_
  refine wl_assign rfl rfl ?_
  refine wl_assign rfl rfl ?_
  refine wl_nil ?_
  refine qs_seq ?_
  refine wc_sub (L' := [(15, _), (14, _), (13, _), (12, _), (11, _), (10, _), (9, _), (8, _), (7, _), (6, _), (5, _), (4, _), (3, _), (2, _), (1, _), (0, _)]) (.cons rfl (.cons rfl (.cons rfl (.cons rfl (.cons rfl (.cons rfl (.cons rfl (.cons rfl (.cons rfl (.cons rfl (.cons rfl (.cons rfl (.cons rfl (.cons rfl (.cons rfl (.cons rfl .nil)))))))))))))))) ?_
  refine wc_seq ?_
  refine wc_region ?_
  refine wl_move rfl rfl ?_
  refine wl_makeIface nif_25 rfl rfl ?_
  have hC11 := hS10.split [0] [true, false] rfl; dsimp only [selF, pickA, nthA, List.cons_append, List.nil_append] at hC11
  refine wl_call cal_25 rfl (pClose_sp hC11 (hG.starL 0 rfl) hP9 (by omega) [97] (by simp) false) rfl ?_
  rintro e w11 ⟨_, rfl, rfl, hS11⟩; refine ⟨_, rfl, ?_⟩
  replace hS11 := hS11.join rfl; dsimp only [List.dropLast, List.cons_append, List.nil_append] at hS11; clear hC11
  clear hS10
  have m10 := clsG g9 false (by decide)
  have hP10 := hP9.cls (id := [97]) (by simp) false
  have e10 : closeE W9 [97] false = 0 := m10.1
  rw [e10]
  have g10 : gP (closeP W9 [97] false) [97] = none := m10.2
  generalize closeP W9 [97] false = W10 at hP10 g10 hS11
  refine wl_assign rfl rfl ?_
  refine wl_nil ?_
  refine qs_seq ?_
  refine wc_sub (L' := [(16, _), (15, _), (14, _), (13, _), (12, _), (11, _), (10, _), (9, _), (8, _), (7, _), (6, _), (5, _), (4, _), (3, _), (2, _), (1, _), (0, _)]) (.cons rfl (.cons rfl (.cons rfl (.cons rfl (.cons rfl (.cons rfl (.cons rfl (.cons rfl (.cons rfl (.cons rfl (.cons rfl (.cons rfl (.cons rfl (.cons rfl (.cons rfl (.cons rfl (.cons rfl .nil))))))))))))))))) ?_
  refine wc_seq ?_
  refine wc_region ?_
  refine wl_move rfl rfl ?_
  refine wl_makeIface nif_25 rfl rfl ?_
  have hC12 := hS11.split [0] [true, false] rfl; dsimp only [selF, pickA, nthA, List.cons_append, List.nil_append] at hC12
  refine wl_call cal_12 rfl (pGet_sp hC12 (hG.starL 0 rfl) [97] (by simp) (hP10.len _)) rfl ?_
  rintro e w12 ⟨_, rfl, rfl, hS12⟩; refine ⟨_, rfl, ?_⟩
  replace hS12 := hS12.join rfl; dsimp only [List.dropLast, List.cons_append, List.nil_append] at hS12; clear hC12
  clear hS11
  have e11 : gB W10 [97] = false := gB_no g10
  rw [e11]
  refine wl_move rfl rfl ?_
  refine wl_extract rfl rfl rfl ?_
  refine wl_extract rfl rfl rfl ?_
  refine wl_alloc hS12 zr_39 rfl rfl ?_
  intro b13 w13 hS13
  clear hS12
  first | (refine wl_storeA hS13 rfl rfl sz_39 rfl (by first | rfl | (simp [allOne, Value.oneCell']; done) | assumption | exact hone) (i := 0) rfl (by first | decide | exact Nat.le_of_ble_eq_true rfl | (simp; done) | omega) ?_)
  intro w14 hS15; dsimp only [List.set] at hS15
  clear hS13
  refine wl_assign rfl rfl ?_
  refine wl_nil ?_
  refine qs_seq ?_
  refine wc_sub (L' := [(18, _), (16, _), (15, _), (14, _), (13, _), (12, _), (11, _), (10, _), (9, _), (8, _), (7, _), (6, _), (5, _), (4, _), (3, _), (2, _), (0, _)]) (.cons rfl (.cons rfl (.cons rfl (.cons rfl (.cons rfl (.cons rfl (.cons rfl (.cons rfl (.cons rfl (.cons rfl (.cons rfl (.cons rfl (.cons rfl (.cons rfl (.cons rfl (.cons rfl (.cons rfl .nil))))))))))))))))) ?_
  refine wc_seq ?_
  refine wc_region ?_
  refine wl_move rfl rfl ?_
  refine wl_eql rfl rfl rfl ?_
  refine wl_move rfl rfl ?_
  refine wl_splitD 76 rfl (fun h16 => ?_) (fun h16 => ?_)
  · skip
    refine wl_guard rfl rfl (decide_eq_true h16) ?_
    refine wl_move rfl rfl ?_
    refine wl_guard rfl rfl (decide_eq_true h16) ?_
    refine wl_eql rfl rfl rfl ?_
    refine wl_pickT rfl (decide_eq_true h16) rfl rfl ?_
    refine wl_move rfl rfl ?_
    refine wl_splitD 80 rfl (fun h17 => ?_) (fun h17 => ?_)
    · skip
      refine wl_guard rfl rfl (decide_eq_true h17) ?_
      refine wl_move rfl rfl ?_
      refine wl_guard rfl rfl (decide_eq_true h17) ?_
      refine wl_eql rfl rfl rfl ?_
      refine wl_pickT rfl (decide_eq_true h17) rfl rfl ?_
      refine wl_move rfl rfl ?_
      refine wl_splitD 84 rfl (fun h18 => ?_) (fun h18 => ?_)
      · skip
        refine wl_guard rfl rfl (decide_eq_true h18) ?_
        refine wl_move rfl rfl ?_
        refine wl_guard rfl rfl (decide_eq_true h18) ?_
        refine wl_eqlS rfl rfl rfl ?_
        refine wl_pickT rfl (decide_eq_true h18) rfl rfl ?_
        refine wl_move rfl rfl ?_
        refine wl_splitD 88 rfl (fun h19 => ?_) (fun h19 => ?_)
        · skip
          refine wl_guard rfl rfl (decide_eq_true h19) ?_
          refine wl_move rfl rfl ?_
          refine wl_guard rfl rfl (decide_eq_true h19) ?_
          refine wl_eql rfl rfl rfl ?_
          refine wl_pickT rfl (decide_eq_true h19) rfl rfl ?_
          refine wl_move rfl rfl ?_
          refine wl_splitD 92 rfl (fun h20 => ?_) (fun h20 => ?_)
          · skip
            refine wl_guard rfl rfl (decide_eq_true h20) ?_
            refine wl_move rfl rfl ?_
            refine wl_guard rfl rfl (decide_eq_true h20) ?_
            refine wl_eql rfl rfl rfl ?_
            refine wl_pickT rfl (decide_eq_true h20) rfl rfl ?_
            refine wl_move rfl rfl ?_
            refine wl_splitD 96 rfl (fun h21 => ?_) (fun h21 => ?_)
            · skip
              refine wl_guard rfl rfl (decide_eq_true h21) ?_
              refine wl_move rfl rfl ?_
              refine wl_guard rfl rfl (decide_eq_true h21) ?_
              refine wl_eql rfl rfl rfl ?_
              refine wl_pickT rfl (decide_eq_true h21) rfl rfl ?_
              refine wl_move rfl rfl ?_
              refine wl_splitD 100 rfl (fun h22 => ?_) (fun h22 => ?_)
              · skip
                refine wl_guard rfl rfl (decide_eq_true h22) ?_
                refine wl_move rfl rfl ?_
                refine wl_guard rfl rfl (decide_eq_true h22) ?_
                refine wl_eqlS rfl rfl rfl ?_
                refine wl_pickT rfl (decide_eq_true h22) rfl rfl ?_
                refine wl_move rfl rfl ?_
                refine wl_splitD 104 rfl (fun h23 => ?_) (fun h23 => ?_)
                · skip
                  refine wl_guard rfl rfl (decide_eq_true h23) ?_
                  refine wl_move rfl rfl ?_
                  refine wl_guard rfl rfl (decide_eq_true h23) ?_
                  refine wl_eql rfl rfl rfl ?_
                  refine wl_pickT rfl (decide_eq_true h23) rfl rfl ?_
                  refine wl_assign rfl rfl ?_
                  refine wl_nil ?_
                  refine qs_seq ?_
                  refine wc_sub (L' := [(19, _), (18, _), (16, _), (15, _), (14, _), (13, _), (12, _), (11, _), (0, _)]) (.cons rfl (.cons rfl (.cons rfl (.cons rfl (.cons rfl (.cons rfl (.cons rfl (.cons rfl (.cons rfl .nil))))))))) ?_
                  refine wc_seq ?_
                  refine wc_region ?_
                  refine wl_move rfl rfl ?_
                  refine wl_move rfl rfl ?_
                  refine wl_splitD 109 rfl (fun h24 => ?_) (fun h24 => ?_)
                  · skip
                    refine wl_guard rfl rfl (decide_eq_true h24) ?_
                    refine wl_move rfl rfl ?_
                    refine wl_guard rfl rfl (decide_eq_true h24) ?_
                    refine wl_eqlS rfl rfl rfl ?_
                    refine wl_pickT rfl (decide_eq_true h24) rfl rfl ?_
                    refine wl_move rfl rfl ?_
                    refine wl_splitD 113 rfl (fun h25 => ?_) (fun h25 => ?_)
                    · skip
                      refine wl_guard rfl rfl (decide_eq_true h25) ?_
                      refine wl_move rfl rfl ?_
                      refine wl_guard rfl rfl (decide_eq_true h25) ?_
                      refine wl_eql rfl rfl rfl ?_
                      refine wl_pickT rfl (decide_eq_true h25) rfl rfl ?_
                      refine wl_move rfl rfl ?_
                      refine wl_splitD 117 rfl (fun h26 => ?_) (fun h26 => ?_)
                      · skip
                        refine wl_guard rfl rfl (decide_eq_true h26) ?_
                        refine wl_move rfl rfl ?_
                        refine wl_guard rfl rfl (decide_eq_true h26) ?_
                        refine wl_eql rfl rfl rfl ?_
                        refine wl_pickT rfl (decide_eq_true h26) rfl rfl ?_
                        refine wl_move rfl rfl ?_
                        refine wl_splitD 121 rfl (fun h27 => ?_) (fun h27 => ?_)
                        · skip
                          refine wl_guard rfl rfl (decide_eq_true h27) ?_
                          refine wl_move rfl rfl ?_
                          refine wl_guard rfl rfl (decide_eq_true h27) ?_
                          refine wl_eqlS rfl rfl rfl ?_
                          refine wl_pickT rfl (decide_eq_true h27) rfl rfl ?_
                          refine wl_move rfl rfl ?_
                          refine wl_splitD 125 rfl (fun h28 => ?_) (fun h28 => ?_)
                          · skip
                            refine wl_guard rfl rfl (decide_eq_true h28) ?_
                            refine wl_move rfl rfl ?_
                            refine wl_guard rfl rfl (decide_eq_true h28) ?_
                            refine wl_eql rfl rfl rfl ?_
                            refine wl_pickT rfl (decide_eq_true h28) rfl rfl ?_
                            refine wl_move rfl rfl ?_
                            refine wl_splitD 129 rfl (fun h29 => ?_) (fun h29 => ?_)
                            · skip
                              refine wl_guard rfl rfl (decide_eq_true h29) ?_
                              refine wl_move rfl rfl ?_
                              refine wl_guard rfl rfl (decide_eq_true h29) ?_
                              refine wl_eql rfl rfl rfl ?_
                              refine wl_pickT rfl (decide_eq_true h29) rfl rfl ?_
                              refine wl_move rfl rfl ?_
                              refine wl_splitD 133 rfl (fun h30 => ?_) (fun h30 => ?_)
                              · skip
                                refine wl_guard rfl rfl (decide_eq_true h30) ?_
                                refine wl_move rfl rfl ?_
                                refine wl_guard rfl rfl (decide_eq_true h30) ?_
                                refine wl_not rfl rfl ?_
                                refine wl_pickT rfl (decide_eq_true h30) rfl rfl ?_
                                refine wl_assign rfl rfl ?_
                                refine wl_nil ?_
                                refine qs_seq ?_
                                refine wc_sub (L' := [(0, _)]) (.cons rfl .nil) ?_
                                refine wc_ret ?_
                                refine fin1 (.inr rfl) rfl rfl ?_
                                exact ⟨_, rfl, by first | rfl | decide | simp, hS15.pick [2] rfl⟩
                              · skip
                                exact absurd (by decide) h30
                            · skip
                              exact absurd (by decide) h29
                          · skip
                            exact absurd (by decide) h28
                        · skip
                          exact absurd (by decide) h27
                      · skip
                        exact absurd (by decide) h26
                    · skip
                      exact absurd (by decide) h25
                  · skip
                    exact absurd (by decide) h24
                · skip
                  exact absurd (by decide) h23
              · skip
                exact absurd (by decide) h22
            · skip
              exact absurd (by decide) h21
          · skip
            exact absurd (by decide) h20
        · skip
          exact absurd (by decide) h19
      · skip
        exact absurd (by decide) h18
    · skip
      exact absurd (by decide) h17
  · skip
    exact absurd (by decide) h16

end Go.Proofs.YtgnhfhhmipcgcaaGreatDoor
