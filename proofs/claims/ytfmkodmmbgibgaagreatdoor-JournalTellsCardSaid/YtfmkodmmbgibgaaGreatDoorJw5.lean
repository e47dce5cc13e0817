/- journal: Commit -/
import Derived.Test.YtfmkodmmbgibgaaGreatDoorJw4
import Derived.Test.YtfmkodmmbgibgaaGreatDoorOp4
namespace Go.Proofs.YtfmkodmmbgibgaaGreatDoor
open Go.RowKit M
set_option linter.unusedVariables false
section
variable {D : DS} {J : JS} {l : List Blk}
theorem commitR_a (h : J.bad = true) : commitR D J l = ⟨7, D, J⟩ := by unfold commitR; rw [if_pos h]
theorem commitR_b (h : J.bad = false) (h1 : rightJ l = false) : commitR D J l = ⟨1, D, J⟩ := by unfold commitR; rw [if_neg (by simp [h]), if_pos h1]
theorem commitR_c (h : J.bad = false) (h1 : rightJ l = true) {R : SR} (hR : R = putR0 D J.C J.base l) (h2 : R.e ≠ 0) : commitR D J l = ⟨R.e, R.D, ⟨J.base, R.C, J.B, true⟩⟩ := by subst hR; unfold commitR; rw [if_neg (by simp [h]), if_neg (by simp [h1]), if_pos h2]
theorem commitR_d (h : J.bad = false) (h1 : rightJ l = true) {R : SR} (hR : R = putR0 D J.C J.base l) (h2 : R.e = 0) : commitR D J l = ⟨0, R.D, ⟨J.base, R.C, withB J.B l, false⟩⟩ := by subst hR; unfold commitR; rw [if_neg (by simp [h]), if_neg (by simp [h1]), if_neg (fun q => q h2)]
end
theorem right_enc {l : List Blk} (h : rightJ l = true) : (∀ x ∈ l, bound20 x) ∧ (l.flatMap encB).length ≤ 1000000000000 ∧ (encJ l).length ≤ 1000000000 := by
  obtain ⟨h1, h2⟩ := right_mem h
  have h3 := flatB_len h2
  have h4 := encJ_len h
  exact ⟨fun x hx => by have := h2 x hx; exact ⟨by unfold inI; omega, by omega⟩, by omega, by omega⟩
set_option maxRecDepth 100000 in
set_option maxHeartbeats 20000000 in
theorem jcommit_sp {w : World} {jp dp : Nat} {D : DS} {J : JS} {F : Th} (hS : Sat w [jT jp dp J, dT dp D, F]) (hG : Ent F WireG) (hO : Ent F (Glob 0)) {lv : Value} {l : List Blk} (hL : Ent F (RdL jbC lv l)) (hln : l.length ≤ 1000000000) :
    Calls Tryz.prog 10 #[ptrV jp 0, lv] w (Ret fun v w' => v = intV (commitR D J l).e ∧ Sat w' [jT jp dp (commitR D J l).J, dT dp (commitR D J l).D, F]) := by
 obtain ⟨ao, cap, rfl, hmax⟩ := (hL.sat hS 2 rfl).shape
 obtain ⟨cp, mb, hJ, hS⟩ := jT_open hS
 refine calls_enter Tryz.func10 rfl Tryz.ntmps10 rfl ?_
 refine wc_seq (wc_region ?_)
 refine wl_box hS rfl rfl rfl ?_
 intro bj w1 hS1
 replace hS1 : Sat w1 (blkT bj [ptrV jp 0] :: _) := hS1
 refine wl_box hS1 rfl rfl rfl ?_
 intro bl w2 hS2
 replace hS2 : Sat w2 (blkT bl [.slice ao l.length cap] :: _) := hS2
 clear hS1
 refine wl_assign rfl rfl (wl_nil (qs_seq (wc_seq (wc_block (wc_seq (wc_region ?_))))))
 refine wl_load rfl ag_27 (by first | assumption | exact hS2.cell 0 rfl rfl | exact hS2.cell 1 rfl rfl | exact hS2.cell 2 rfl rfl | exact hS2.cell 3 rfl rfl) rfl ?_
 refine wl_nilCheck rfl rfl ?_
 refine wl_fieldAddr rfl fo_73_4 rfl ?_
 refine wl_load rfl ag_4 (by first | assumption | exact hS2.cell 0 rfl rfl | exact hS2.cell 1 rfl rfl | exact hS2.cell 2 rfl rfl | exact hS2.cell 3 rfl rfl) rfl ?_
 refine wl_assign rfl rfl (wl_nil (qs_seq ?_))
 refine wc_cond rfl (fun h3 => ?_) (fun h3 => ?_)
 ·have h0 : J.bad = true := h3
  refine wc_seq (wc_region (wl_assign rfl rfl (wl_nil (qs_seq (wc_ret (qs_block_ret (qs_then_ret ?_)))))))
  refine fin1 (.inr rfl) rfl rfl ?_
  exact ⟨_, rfl, by rw [commitR_a h0], by rw [commitR_a h0]; exact jT_shut hJ (hS2.pick [2, 3, 4, 5, 6] rfl)⟩
 have hbad : J.bad = false := h3
 refine wc_seq (wc_region ?_)
 refine wl_load rfl ag_32 (by first | assumption | exact hS2.cell 0 rfl rfl | exact hS2.cell 1 rfl rfl | exact hS2.cell 2 rfl rfl | exact hS2.cell 3 rfl rfl) rfl ?_
 have hC4 := hS2.split [] [false, false, false, false, false, false, false] rfl; dsimp only [selF, pickA, nthA, List.cons_append, List.nil_append] at hC4
 refine wl_call cal_39 rfl (jright_sp hC4 (hL.starL 6 rfl) hln) rfl ?_
 rintro e w4 ⟨_, rfl, rfl, hS4⟩; refine ⟨_, rfl, ?_⟩
 replace hS4 := hS4.join rfl; dsimp only [List.dropLast, List.cons_append, List.nil_append] at hS4; clear hC4
 clear hS2
 refine wl_not rfl rfl ?_
 refine wl_assign rfl rfl (wl_nil (qs_seq ?_))
 refine wc_sub (L' := [(15, _), (4, _), (3, _), (2, _)]) (.cons rfl (.cons rfl (.cons rfl (.cons rfl .nil)))) ?_
 refine wc_cond rfl (fun h5 => ?_) (fun h5 => ?_)
 ·have hrt : rightJ l = false := by simpa using h5
  refine wc_seq (wc_region (wl_assign rfl rfl (wl_nil (qs_seq (wc_ret (qs_block_ret (qs_then_ret ?_)))))))
  refine fin1 (.inr rfl) rfl rfl ?_
  exact ⟨_, rfl, by rw [commitR_b hbad hrt], by rw [commitR_b hbad hrt]; exact jT_shut hJ (hS4.pick [2, 3, 4, 5, 6] rfl)⟩
 have hrt : rightJ l = true := by simpa using h5
 obtain ⟨hok, hz, hes⟩ := right_enc hrt
 have hrm := (right_mem hrt).2
 have hb := hJ.2.1
 refine wc_skip (qs_block_normal (qs_seq ?_))
 refine wc_mid (fun E0 W0 => ∃ (bs bg : Nat), E0 = [(2, ptrV bj 0), (3, ptrV bl 0), (5, ptrV bs 0), (6, ptrV bg 0)] ∧ Sat W0 [blkT bs [strV (encJ l)], blkT bg [intV (J.base + 1)], blkT bl [.slice ao l.length cap], blkT bj [ptrV jp 0], blkT jp (jV dp J.base cp mb J.bad), blkT cp (cellV dp J.C), mapT intK mb (jmG J.B), dT dp D, F]) ?_ ?_
 ·have hS7 := hS4.drew
  refine wc_draws mix ?_
  refine dr_split 1 7 rfl ?_ ?_
  ·refine dr_split 1 8 rfl ?_ ?_
   ·refine dr_split 7 8 rfl ?_ ?_
    ·refine dr_vc (sp := [1, 7, 8, 9, 10]) [0, 2, 3, 4, 5, 6, 1, 7, 8, 9, 10] (by kernel_rfl) ?_
     refine vc_q rfl rfl rfl (ev_load rfl ag_32 (by first | assumption | exact hS7.cell 0 rfl rfl | exact hS7.cell 1 rfl rfl | exact hS7.cell 2 rfl rfl | exact hS7.cell 3 rfl rfl)) ?_
     refine vc_q rfl rfl rfl (ev_load rfl ag_27 (by first | assumption | exact hS7.cell 0 rfl rfl | exact hS7.cell 1 rfl rfl | exact hS7.cell 2 rfl rfl | exact hS7.cell 3 rfl rfl)) ?_
     refine vc_p rfl rfl rfl (fun _ => (ev_nilCheck rfl)) ?_
     refine vc_p rfl rfl rfl (fun _ => (ev_fieldAddr rfl fo_73_1)) ?_
     refine vc_q rfl rfl rfl (ev_load rfl ag_3 (by first | assumption | exact hS7.cell 0 rfl rfl | exact hS7.cell 1 rfl rfl | exact hS7.cell 2 rfl rfl | exact hS7.cell 3 rfl rfl)) ?_
     refine vc_p rfl rfl rfl (fun _ => (ev_add rfl rfl (by omega) (by omega))) ?_
     refine vc_s rfl rfl rfl rfl rfl rfl ?_
     have hC8 := hS7.split [] [false, false, false, false, false, false, false] rfl; dsimp only [selF, pickA, nthA, List.cons_append, List.nil_append] at hC8
     refine wl_call cal_40 rfl (encode_sp hC8 (hG.starL 6 rfl) (hL.starL 6 rfl) hln hok hz) rfl ?_
     rintro e w8 ⟨_, rfl, rfl, hS8⟩; refine ⟨_, rfl, ?_⟩
     replace hS8 := hS8.join rfl; dsimp only [List.dropLast, List.cons_append, List.nil_append] at hS8; clear hC8
     clear hS7
     refine vc_e (.cons (.inl ⟨rfl, (ev_load rfl ag_3 (by first | assumption | exact hS8.cell 0 rfl rfl | exact hS8.cell 1 rfl rfl | exact hS8.cell 2 rfl rfl | exact hS8.cell 3 rfl rfl))⟩) (.cons (.inl ⟨rfl, (ev_load rfl ag_27 (by first | assumption | exact hS8.cell 0 rfl rfl | exact hS8.cell 1 rfl rfl | exact hS8.cell 2 rfl rfl | exact hS8.cell 3 rfl rfl))⟩) (.skip (by kernel_rfl) .nil))) ?_
     refine vc_s rfl rfl rfl rfl rfl rfl ?_
     refine wl_alloc hS8 zr_9 rfl rfl ?_
     intro bs w9 hS9
     clear hS8
     refine vc_e (.cons (.inl ⟨rfl, (ev_load rfl ag_3 (by first | assumption | exact hS9.cell 0 rfl rfl | exact hS9.cell 1 rfl rfl | exact hS9.cell 2 rfl rfl | exact hS9.cell 3 rfl rfl | exact hS9.cell 4 rfl rfl))⟩) (.cons (.inl ⟨rfl, (ev_load rfl ag_27 (by first | assumption | exact hS9.cell 0 rfl rfl | exact hS9.cell 1 rfl rfl | exact hS9.cell 2 rfl rfl | exact hS9.cell 3 rfl rfl | exact hS9.cell 4 rfl rfl))⟩) (.skip (by kernel_rfl) .nil))) ?_
     refine vc_s rfl rfl rfl rfl rfl rfl ?_
     refine wl_alloc hS9 zr_3 rfl rfl ?_
     intro bg w10 hS10
     clear hS9
     refine vc_e (.cons (.inl ⟨rfl, (ev_load rfl ag_3 (by first | assumption | exact hS10.cell 0 rfl rfl | exact hS10.cell 1 rfl rfl | exact hS10.cell 2 rfl rfl | exact hS10.cell 3 rfl rfl | exact hS10.cell 4 rfl rfl | exact hS10.cell 5 rfl rfl))⟩) (.cons (.inl ⟨rfl, (ev_load rfl ag_27 (by first | assumption | exact hS10.cell 0 rfl rfl | exact hS10.cell 1 rfl rfl | exact hS10.cell 2 rfl rfl | exact hS10.cell 3 rfl rfl | exact hS10.cell 4 rfl rfl | exact hS10.cell 5 rfl rfl))⟩) (.skip (by kernel_rfl) .nil))) ?_
     refine vc_s rfl rfl rfl rfl rfl rfl ?_
     first | (refine wl_store hS10 rfl rfl sz_9 (by first | rfl | assumption) (i := 0) rfl (by first | decide | exact Nat.le_of_ble_eq_true rfl | (simp; done) | omega) ?_) | (refine wl_store hS10 rfl rfl sz_9 (by first | rfl | assumption) (i := 1) rfl (by first | decide | exact Nat.le_of_ble_eq_true rfl | (simp; done) | omega) ?_) | (refine wl_store hS10 rfl rfl sz_9 (by first | rfl | assumption) (i := 2) rfl (by first | decide | exact Nat.le_of_ble_eq_true rfl | (simp; done) | omega) ?_) | (refine wl_store hS10 rfl rfl sz_9 (by first | rfl | assumption) (i := 3) rfl (by first | decide | exact Nat.le_of_ble_eq_true rfl | (simp; done) | omega) ?_) | (refine wl_store hS10 rfl rfl sz_9 (by first | rfl | assumption) (i := 4) rfl (by first | decide | exact Nat.le_of_ble_eq_true rfl | (simp; done) | omega) ?_) | (refine wl_store hS10 rfl rfl sz_9 (by first | rfl | assumption) (i := 5) rfl (by first | decide | exact Nat.le_of_ble_eq_true rfl | (simp; done) | omega) ?_)
     intro w11 hS12; dsimp only [List.set] at hS12
     clear hS10
     refine vc_e0 (.cons (.inl ⟨rfl, (ev_load rfl ag_3 (by first | assumption | exact hS12.cell 0 rfl rfl | exact hS12.cell 1 rfl rfl | exact hS12.cell 2 rfl rfl | exact hS12.cell 3 rfl rfl | exact hS12.cell 4 rfl rfl | exact hS12.cell 5 rfl rfl))⟩) (.cons (.inl ⟨rfl, (ev_load rfl ag_27 (by first | assumption | exact hS12.cell 0 rfl rfl | exact hS12.cell 1 rfl rfl | exact hS12.cell 2 rfl rfl | exact hS12.cell 3 rfl rfl | exact hS12.cell 4 rfl rfl | exact hS12.cell 5 rfl rfl))⟩) (.skip (by kernel_rfl) .nil))) ?_
     refine vc_s rfl rfl rfl rfl rfl rfl ?_
     first | (refine wl_store hS12 rfl rfl sz_3 (by first | rfl | assumption) (i := 0) rfl (by first | decide | exact Nat.le_of_ble_eq_true rfl | (simp; done) | omega) ?_) | (refine wl_store hS12 rfl rfl sz_3 (by first | rfl | assumption) (i := 1) rfl (by first | decide | exact Nat.le_of_ble_eq_true rfl | (simp; done) | omega) ?_) | (refine wl_store hS12 rfl rfl sz_3 (by first | rfl | assumption) (i := 2) rfl (by first | decide | exact Nat.le_of_ble_eq_true rfl | (simp; done) | omega) ?_) | (refine wl_store hS12 rfl rfl sz_3 (by first | rfl | assumption) (i := 3) rfl (by first | decide | exact Nat.le_of_ble_eq_true rfl | (simp; done) | omega) ?_) | (refine wl_store hS12 rfl rfl sz_3 (by first | rfl | assumption) (i := 4) rfl (by first | decide | exact Nat.le_of_ble_eq_true rfl | (simp; done) | omega) ?_) | (refine wl_store hS12 rfl rfl sz_3 (by first | rfl | assumption) (i := 5) rfl (by first | decide | exact Nat.le_of_ble_eq_true rfl | (simp; done) | omega) ?_)
     intro w13 hS14; dsimp only [List.set] at hS14
     clear hS12
     refine vc_e0 (.skip (by kernel_rfl) (.skip (by kernel_rfl) (.skip (by kernel_rfl) .nil))) ?_
     refine VC.nil ?_
     exact qs_mid (.cons rfl (.cons rfl (.cons rfl (.cons rfl .nil)))) ⟨_, _, rfl, hS14.pick [1, 0, 2, 3, 4, 5, 6, 7, 8] rfl⟩
    refine dr_vc (sp := [1, 7, 8, 9, 10]) [0, 2, 3, 4, 5, 6, 1, 8, 7, 9, 10] (by kernel_rfl) ?_
    refine vc_q rfl rfl rfl (ev_load rfl ag_32 (by first | assumption | exact hS7.cell 0 rfl rfl | exact hS7.cell 1 rfl rfl | exact hS7.cell 2 rfl rfl | exact hS7.cell 3 rfl rfl)) ?_
    refine vc_q rfl rfl rfl (ev_load rfl ag_27 (by first | assumption | exact hS7.cell 0 rfl rfl | exact hS7.cell 1 rfl rfl | exact hS7.cell 2 rfl rfl | exact hS7.cell 3 rfl rfl)) ?_
    refine vc_p rfl rfl rfl (fun _ => (ev_nilCheck rfl)) ?_
    refine vc_p rfl rfl rfl (fun _ => (ev_fieldAddr rfl fo_73_1)) ?_
    refine vc_q rfl rfl rfl (ev_load rfl ag_3 (by first | assumption | exact hS7.cell 0 rfl rfl | exact hS7.cell 1 rfl rfl | exact hS7.cell 2 rfl rfl | exact hS7.cell 3 rfl rfl)) ?_
    refine vc_p rfl rfl rfl (fun _ => (ev_add rfl rfl (by omega) (by omega))) ?_
    refine vc_s rfl rfl rfl rfl rfl rfl ?_
    have hC15 := hS7.split [] [false, false, false, false, false, false, false] rfl; dsimp only [selF, pickA, nthA, List.cons_append, List.nil_append] at hC15
    refine wl_call cal_40 rfl (encode_sp hC15 (hG.starL 6 rfl) (hL.starL 6 rfl) hln hok hz) rfl ?_
    rintro e w15 ⟨_, rfl, rfl, hS15⟩; refine ⟨_, rfl, ?_⟩
    replace hS15 := hS15.join rfl; dsimp only [List.dropLast, List.cons_append, List.nil_append] at hS15; clear hC15
    clear hS7
    refine vc_e (.cons (.inl ⟨rfl, (ev_load rfl ag_3 (by first | assumption | exact hS15.cell 0 rfl rfl | exact hS15.cell 1 rfl rfl | exact hS15.cell 2 rfl rfl | exact hS15.cell 3 rfl rfl))⟩) (.cons (.inl ⟨rfl, (ev_load rfl ag_27 (by first | assumption | exact hS15.cell 0 rfl rfl | exact hS15.cell 1 rfl rfl | exact hS15.cell 2 rfl rfl | exact hS15.cell 3 rfl rfl))⟩) (.skip (by kernel_rfl) .nil))) ?_
    refine vc_s rfl rfl rfl rfl rfl rfl ?_
    refine wl_alloc hS15 zr_3 rfl rfl ?_
    intro bg w16 hS16
    clear hS15
    refine vc_e (.cons (.inl ⟨rfl, (ev_load rfl ag_3 (by first | assumption | exact hS16.cell 0 rfl rfl | exact hS16.cell 1 rfl rfl | exact hS16.cell 2 rfl rfl | exact hS16.cell 3 rfl rfl | exact hS16.cell 4 rfl rfl))⟩) (.cons (.inl ⟨rfl, (ev_load rfl ag_27 (by first | assumption | exact hS16.cell 0 rfl rfl | exact hS16.cell 1 rfl rfl | exact hS16.cell 2 rfl rfl | exact hS16.cell 3 rfl rfl | exact hS16.cell 4 rfl rfl))⟩) (.skip (by kernel_rfl) .nil))) ?_
    refine vc_s rfl rfl rfl rfl rfl rfl ?_
    refine wl_alloc hS16 zr_9 rfl rfl ?_
    intro bs w17 hS17
    clear hS16
    refine vc_e (.cons (.inl ⟨rfl, (ev_load rfl ag_3 (by first | assumption | exact hS17.cell 0 rfl rfl | exact hS17.cell 1 rfl rfl | exact hS17.cell 2 rfl rfl | exact hS17.cell 3 rfl rfl | exact hS17.cell 4 rfl rfl | exact hS17.cell 5 rfl rfl))⟩) (.cons (.inl ⟨rfl, (ev_load rfl ag_27 (by first | assumption | exact hS17.cell 0 rfl rfl | exact hS17.cell 1 rfl rfl | exact hS17.cell 2 rfl rfl | exact hS17.cell 3 rfl rfl | exact hS17.cell 4 rfl rfl | exact hS17.cell 5 rfl rfl))⟩) (.skip (by kernel_rfl) .nil))) ?_
    refine vc_s rfl rfl rfl rfl rfl rfl ?_
    first | (refine wl_store hS17 rfl rfl sz_9 (by first | rfl | assumption) (i := 0) rfl (by first | decide | exact Nat.le_of_ble_eq_true rfl | (simp; done) | omega) ?_) | (refine wl_store hS17 rfl rfl sz_9 (by first | rfl | assumption) (i := 1) rfl (by first | decide | exact Nat.le_of_ble_eq_true rfl | (simp; done) | omega) ?_) | (refine wl_store hS17 rfl rfl sz_9 (by first | rfl | assumption) (i := 2) rfl (by first | decide | exact Nat.le_of_ble_eq_true rfl | (simp; done) | omega) ?_) | (refine wl_store hS17 rfl rfl sz_9 (by first | rfl | assumption) (i := 3) rfl (by first | decide | exact Nat.le_of_ble_eq_true rfl | (simp; done) | omega) ?_) | (refine wl_store hS17 rfl rfl sz_9 (by first | rfl | assumption) (i := 4) rfl (by first | decide | exact Nat.le_of_ble_eq_true rfl | (simp; done) | omega) ?_) | (refine wl_store hS17 rfl rfl sz_9 (by first | rfl | assumption) (i := 5) rfl (by first | decide | exact Nat.le_of_ble_eq_true rfl | (simp; done) | omega) ?_)
    intro w18 hS19; dsimp only [List.set] at hS19
    clear hS17
    refine vc_e0 (.cons (.inl ⟨rfl, (ev_load rfl ag_3 (by first | assumption | exact hS19.cell 0 rfl rfl | exact hS19.cell 1 rfl rfl | exact hS19.cell 2 rfl rfl | exact hS19.cell 3 rfl rfl | exact hS19.cell 4 rfl rfl | exact hS19.cell 5 rfl rfl))⟩) (.cons (.inl ⟨rfl, (ev_load rfl ag_27 (by first | assumption | exact hS19.cell 0 rfl rfl | exact hS19.cell 1 rfl rfl | exact hS19.cell 2 rfl rfl | exact hS19.cell 3 rfl rfl | exact hS19.cell 4 rfl rfl | exact hS19.cell 5 rfl rfl))⟩) (.skip (by kernel_rfl) .nil))) ?_
    refine vc_s rfl rfl rfl rfl rfl rfl ?_
    first | (refine wl_store hS19 rfl rfl sz_3 (by first | rfl | assumption) (i := 0) rfl (by first | decide | exact Nat.le_of_ble_eq_true rfl | (simp; done) | omega) ?_) | (refine wl_store hS19 rfl rfl sz_3 (by first | rfl | assumption) (i := 1) rfl (by first | decide | exact Nat.le_of_ble_eq_true rfl | (simp; done) | omega) ?_) | (refine wl_store hS19 rfl rfl sz_3 (by first | rfl | assumption) (i := 2) rfl (by first | decide | exact Nat.le_of_ble_eq_true rfl | (simp; done) | omega) ?_) | (refine wl_store hS19 rfl rfl sz_3 (by first | rfl | assumption) (i := 3) rfl (by first | decide | exact Nat.le_of_ble_eq_true rfl | (simp; done) | omega) ?_) | (refine wl_store hS19 rfl rfl sz_3 (by first | rfl | assumption) (i := 4) rfl (by first | decide | exact Nat.le_of_ble_eq_true rfl | (simp; done) | omega) ?_) | (refine wl_store hS19 rfl rfl sz_3 (by first | rfl | assumption) (i := 5) rfl (by first | decide | exact Nat.le_of_ble_eq_true rfl | (simp; done) | omega) ?_)
    intro w20 hS21; dsimp only [List.set] at hS21
    clear hS19
    refine vc_e0 (.skip (by kernel_rfl) (.skip (by kernel_rfl) (.skip (by kernel_rfl) .nil))) ?_
    refine VC.nil ?_
    exact qs_mid (.cons rfl (.cons rfl (.cons rfl (.cons rfl .nil)))) ⟨_, _, rfl, hS21.pick [0, 1, 2, 3, 4, 5, 6, 7, 8] rfl⟩
   refine dr_vc (sp := [1, 7, 8, 9, 10]) [0, 2, 3, 4, 5, 6, 8, 1, 7, 9, 10] (by kernel_rfl) ?_
   refine vc_q rfl rfl rfl (ev_load rfl ag_32 (by first | assumption | exact hS7.cell 0 rfl rfl | exact hS7.cell 1 rfl rfl | exact hS7.cell 2 rfl rfl | exact hS7.cell 3 rfl rfl)) ?_
   refine vc_q rfl rfl rfl (ev_load rfl ag_27 (by first | assumption | exact hS7.cell 0 rfl rfl | exact hS7.cell 1 rfl rfl | exact hS7.cell 2 rfl rfl | exact hS7.cell 3 rfl rfl)) ?_
   refine vc_p rfl rfl rfl (fun _ => (ev_nilCheck rfl)) ?_
   refine vc_p rfl rfl rfl (fun _ => (ev_fieldAddr rfl fo_73_1)) ?_
   refine vc_q rfl rfl rfl (ev_load rfl ag_3 (by first | assumption | exact hS7.cell 0 rfl rfl | exact hS7.cell 1 rfl rfl | exact hS7.cell 2 rfl rfl | exact hS7.cell 3 rfl rfl)) ?_
   refine vc_p rfl rfl rfl (fun _ => (ev_add rfl rfl (by omega) (by omega))) ?_
   refine vc_s rfl rfl rfl rfl rfl rfl ?_
   refine wl_alloc hS7 zr_3 rfl rfl ?_
   intro bg w22 hS22
   clear hS7
   refine vc_e (.cons (.inl ⟨rfl, (ev_load rfl ag_3 (by first | assumption | exact hS22.cell 0 rfl rfl | exact hS22.cell 1 rfl rfl | exact hS22.cell 2 rfl rfl | exact hS22.cell 3 rfl rfl | exact hS22.cell 4 rfl rfl))⟩) (.cons (.inl ⟨rfl, (ev_load rfl ag_27 (by first | assumption | exact hS22.cell 0 rfl rfl | exact hS22.cell 1 rfl rfl | exact hS22.cell 2 rfl rfl | exact hS22.cell 3 rfl rfl | exact hS22.cell 4 rfl rfl))⟩) (.cons (.inl ⟨rfl, (ev_load rfl ag_32 (by first | assumption | exact hS22.cell 0 rfl rfl | exact hS22.cell 1 rfl rfl | exact hS22.cell 2 rfl rfl | exact hS22.cell 3 rfl rfl | exact hS22.cell 4 rfl rfl))⟩) .nil))) ?_
   refine vc_s rfl rfl rfl rfl rfl rfl ?_
   have hC23 := hS22.split [] [false, false, false, false, false, false, false, false] rfl; dsimp only [selF, pickA, nthA, List.cons_append, List.nil_append] at hC23
   refine wl_call cal_40 rfl (encode_sp hC23 (hG.starL 7 rfl) (hL.starL 7 rfl) hln hok hz) rfl ?_
   rintro e w23 ⟨_, rfl, rfl, hS23⟩; refine ⟨_, rfl, ?_⟩
   replace hS23 := hS23.join rfl; dsimp only [List.dropLast, List.cons_append, List.nil_append] at hS23; clear hC23
   clear hS22
   refine vc_e (.cons (.inl ⟨rfl, (ev_load rfl ag_3 (by first | assumption | exact hS23.cell 0 rfl rfl | exact hS23.cell 1 rfl rfl | exact hS23.cell 2 rfl rfl | exact hS23.cell 3 rfl rfl | exact hS23.cell 4 rfl rfl))⟩) (.cons (.inl ⟨rfl, (ev_load rfl ag_27 (by first | assumption | exact hS23.cell 0 rfl rfl | exact hS23.cell 1 rfl rfl | exact hS23.cell 2 rfl rfl | exact hS23.cell 3 rfl rfl | exact hS23.cell 4 rfl rfl))⟩) (.skip (by kernel_rfl) .nil))) ?_
   refine vc_s rfl rfl rfl rfl rfl rfl ?_
   refine wl_alloc hS23 zr_9 rfl rfl ?_
   intro bs w24 hS24
   clear hS23
   refine vc_e (.cons (.inl ⟨rfl, (ev_load rfl ag_3 (by first | assumption | exact hS24.cell 0 rfl rfl | exact hS24.cell 1 rfl rfl | exact hS24.cell 2 rfl rfl | exact hS24.cell 3 rfl rfl | exact hS24.cell 4 rfl rfl | exact hS24.cell 5 rfl rfl))⟩) (.cons (.inl ⟨rfl, (ev_load rfl ag_27 (by first | assumption | exact hS24.cell 0 rfl rfl | exact hS24.cell 1 rfl rfl | exact hS24.cell 2 rfl rfl | exact hS24.cell 3 rfl rfl | exact hS24.cell 4 rfl rfl | exact hS24.cell 5 rfl rfl))⟩) (.skip (by kernel_rfl) .nil))) ?_
   refine vc_s rfl rfl rfl rfl rfl rfl ?_
   first | (refine wl_store hS24 rfl rfl sz_9 (by first | rfl | assumption) (i := 0) rfl (by first | decide | exact Nat.le_of_ble_eq_true rfl | (simp; done) | omega) ?_) | (refine wl_store hS24 rfl rfl sz_9 (by first | rfl | assumption) (i := 1) rfl (by first | decide | exact Nat.le_of_ble_eq_true rfl | (simp; done) | omega) ?_) | (refine wl_store hS24 rfl rfl sz_9 (by first | rfl | assumption) (i := 2) rfl (by first | decide | exact Nat.le_of_ble_eq_true rfl | (simp; done) | omega) ?_) | (refine wl_store hS24 rfl rfl sz_9 (by first | rfl | assumption) (i := 3) rfl (by first | decide | exact Nat.le_of_ble_eq_true rfl | (simp; done) | omega) ?_) | (refine wl_store hS24 rfl rfl sz_9 (by first | rfl | assumption) (i := 4) rfl (by first | decide | exact Nat.le_of_ble_eq_true rfl | (simp; done) | omega) ?_) | (refine wl_store hS24 rfl rfl sz_9 (by first | rfl | assumption) (i := 5) rfl (by first | decide | exact Nat.le_of_ble_eq_true rfl | (simp; done) | omega) ?_)
   intro w25 hS26; dsimp only [List.set] at hS26
   clear hS24
   refine vc_e0 (.cons (.inl ⟨rfl, (ev_load rfl ag_3 (by first | assumption | exact hS26.cell 0 rfl rfl | exact hS26.cell 1 rfl rfl | exact hS26.cell 2 rfl rfl | exact hS26.cell 3 rfl rfl | exact hS26.cell 4 rfl rfl | exact hS26.cell 5 rfl rfl))⟩) (.cons (.inl ⟨rfl, (ev_load rfl ag_27 (by first | assumption | exact hS26.cell 0 rfl rfl | exact hS26.cell 1 rfl rfl | exact hS26.cell 2 rfl rfl | exact hS26.cell 3 rfl rfl | exact hS26.cell 4 rfl rfl | exact hS26.cell 5 rfl rfl))⟩) (.skip (by kernel_rfl) .nil))) ?_
   refine vc_s rfl rfl rfl rfl rfl rfl ?_
   first | (refine wl_store hS26 rfl rfl sz_3 (by first | rfl | assumption) (i := 0) rfl (by first | decide | exact Nat.le_of_ble_eq_true rfl | (simp; done) | omega) ?_) | (refine wl_store hS26 rfl rfl sz_3 (by first | rfl | assumption) (i := 1) rfl (by first | decide | exact Nat.le_of_ble_eq_true rfl | (simp; done) | omega) ?_) | (refine wl_store hS26 rfl rfl sz_3 (by first | rfl | assumption) (i := 2) rfl (by first | decide | exact Nat.le_of_ble_eq_true rfl | (simp; done) | omega) ?_) | (refine wl_store hS26 rfl rfl sz_3 (by first | rfl | assumption) (i := 3) rfl (by first | decide | exact Nat.le_of_ble_eq_true rfl | (simp; done) | omega) ?_) | (refine wl_store hS26 rfl rfl sz_3 (by first | rfl | assumption) (i := 4) rfl (by first | decide | exact Nat.le_of_ble_eq_true rfl | (simp; done) | omega) ?_) | (refine wl_store hS26 rfl rfl sz_3 (by first | rfl | assumption) (i := 5) rfl (by first | decide | exact Nat.le_of_ble_eq_true rfl | (simp; done) | omega) ?_)
   intro w27 hS28; dsimp only [List.set] at hS28
   clear hS26
   refine vc_e0 (.skip (by kernel_rfl) (.skip (by kernel_rfl) (.skip (by kernel_rfl) .nil))) ?_
   refine VC.nil ?_
   exact qs_mid (.cons rfl (.cons rfl (.cons rfl (.cons rfl .nil)))) ⟨_, _, rfl, hS28.pick [0, 1, 2, 3, 4, 5, 6, 7, 8] rfl⟩
  refine dr_split 7 8 rfl ?_ ?_
  ·refine dr_split 1 8 rfl ?_ ?_
   ·refine dr_vc (sp := [1, 7, 8, 9, 10]) [0, 2, 3, 4, 5, 6, 7, 1, 8, 9, 10] (by kernel_rfl) ?_
    refine vc_q rfl rfl rfl (ev_load rfl ag_32 (by first | assumption | exact hS7.cell 0 rfl rfl | exact hS7.cell 1 rfl rfl | exact hS7.cell 2 rfl rfl | exact hS7.cell 3 rfl rfl)) ?_
    refine vc_q rfl rfl rfl (ev_load rfl ag_27 (by first | assumption | exact hS7.cell 0 rfl rfl | exact hS7.cell 1 rfl rfl | exact hS7.cell 2 rfl rfl | exact hS7.cell 3 rfl rfl)) ?_
    refine vc_p rfl rfl rfl (fun _ => (ev_nilCheck rfl)) ?_
    refine vc_p rfl rfl rfl (fun _ => (ev_fieldAddr rfl fo_73_1)) ?_
    refine vc_q rfl rfl rfl (ev_load rfl ag_3 (by first | assumption | exact hS7.cell 0 rfl rfl | exact hS7.cell 1 rfl rfl | exact hS7.cell 2 rfl rfl | exact hS7.cell 3 rfl rfl)) ?_
    refine vc_p rfl rfl rfl (fun _ => (ev_add rfl rfl (by omega) (by omega))) ?_
    refine vc_s rfl rfl rfl rfl rfl rfl ?_
    refine wl_alloc hS7 zr_9 rfl rfl ?_
    intro bs w29 hS29
    clear hS7
    refine vc_e (.cons (.inl ⟨rfl, (ev_load rfl ag_3 (by first | assumption | exact hS29.cell 0 rfl rfl | exact hS29.cell 1 rfl rfl | exact hS29.cell 2 rfl rfl | exact hS29.cell 3 rfl rfl | exact hS29.cell 4 rfl rfl))⟩) (.cons (.inl ⟨rfl, (ev_load rfl ag_27 (by first | assumption | exact hS29.cell 0 rfl rfl | exact hS29.cell 1 rfl rfl | exact hS29.cell 2 rfl rfl | exact hS29.cell 3 rfl rfl | exact hS29.cell 4 rfl rfl))⟩) (.cons (.inl ⟨rfl, (ev_load rfl ag_32 (by first | assumption | exact hS29.cell 0 rfl rfl | exact hS29.cell 1 rfl rfl | exact hS29.cell 2 rfl rfl | exact hS29.cell 3 rfl rfl | exact hS29.cell 4 rfl rfl))⟩) .nil))) ?_
    refine vc_s rfl rfl rfl rfl rfl rfl ?_
    have hC30 := hS29.split [] [false, false, false, false, false, false, false, false] rfl; dsimp only [selF, pickA, nthA, List.cons_append, List.nil_append] at hC30
    refine wl_call cal_40 rfl (encode_sp hC30 (hG.starL 7 rfl) (hL.starL 7 rfl) hln hok hz) rfl ?_
    rintro e w30 ⟨_, rfl, rfl, hS30⟩; refine ⟨_, rfl, ?_⟩
    replace hS30 := hS30.join rfl; dsimp only [List.dropLast, List.cons_append, List.nil_append] at hS30; clear hC30
    clear hS29
    refine vc_e (.cons (.inl ⟨rfl, (ev_load rfl ag_3 (by first | assumption | exact hS30.cell 0 rfl rfl | exact hS30.cell 1 rfl rfl | exact hS30.cell 2 rfl rfl | exact hS30.cell 3 rfl rfl | exact hS30.cell 4 rfl rfl))⟩) (.cons (.inl ⟨rfl, (ev_load rfl ag_27 (by first | assumption | exact hS30.cell 0 rfl rfl | exact hS30.cell 1 rfl rfl | exact hS30.cell 2 rfl rfl | exact hS30.cell 3 rfl rfl | exact hS30.cell 4 rfl rfl))⟩) (.skip (by kernel_rfl) .nil))) ?_
    refine vc_s rfl rfl rfl rfl rfl rfl ?_
    refine wl_alloc hS30 zr_3 rfl rfl ?_
    intro bg w31 hS31
    clear hS30
    refine vc_e (.cons (.inl ⟨rfl, (ev_load rfl ag_3 (by first | assumption | exact hS31.cell 0 rfl rfl | exact hS31.cell 1 rfl rfl | exact hS31.cell 2 rfl rfl | exact hS31.cell 3 rfl rfl | exact hS31.cell 4 rfl rfl | exact hS31.cell 5 rfl rfl))⟩) (.cons (.inl ⟨rfl, (ev_load rfl ag_27 (by first | assumption | exact hS31.cell 0 rfl rfl | exact hS31.cell 1 rfl rfl | exact hS31.cell 2 rfl rfl | exact hS31.cell 3 rfl rfl | exact hS31.cell 4 rfl rfl | exact hS31.cell 5 rfl rfl))⟩) (.skip (by kernel_rfl) .nil))) ?_
    refine vc_s rfl rfl rfl rfl rfl rfl ?_
    first | (refine wl_store hS31 rfl rfl sz_9 (by first | rfl | assumption) (i := 0) rfl (by first | decide | exact Nat.le_of_ble_eq_true rfl | (simp; done) | omega) ?_) | (refine wl_store hS31 rfl rfl sz_9 (by first | rfl | assumption) (i := 1) rfl (by first | decide | exact Nat.le_of_ble_eq_true rfl | (simp; done) | omega) ?_) | (refine wl_store hS31 rfl rfl sz_9 (by first | rfl | assumption) (i := 2) rfl (by first | decide | exact Nat.le_of_ble_eq_true rfl | (simp; done) | omega) ?_) | (refine wl_store hS31 rfl rfl sz_9 (by first | rfl | assumption) (i := 3) rfl (by first | decide | exact Nat.le_of_ble_eq_true rfl | (simp; done) | omega) ?_) | (refine wl_store hS31 rfl rfl sz_9 (by first | rfl | assumption) (i := 4) rfl (by first | decide | exact Nat.le_of_ble_eq_true rfl | (simp; done) | omega) ?_) | (refine wl_store hS31 rfl rfl sz_9 (by first | rfl | assumption) (i := 5) rfl (by first | decide | exact Nat.le_of_ble_eq_true rfl | (simp; done) | omega) ?_)
    intro w32 hS33; dsimp only [List.set] at hS33
    clear hS31
    refine vc_e0 (.cons (.inl ⟨rfl, (ev_load rfl ag_3 (by first | assumption | exact hS33.cell 0 rfl rfl | exact hS33.cell 1 rfl rfl | exact hS33.cell 2 rfl rfl | exact hS33.cell 3 rfl rfl | exact hS33.cell 4 rfl rfl | exact hS33.cell 5 rfl rfl))⟩) (.cons (.inl ⟨rfl, (ev_load rfl ag_27 (by first | assumption | exact hS33.cell 0 rfl rfl | exact hS33.cell 1 rfl rfl | exact hS33.cell 2 rfl rfl | exact hS33.cell 3 rfl rfl | exact hS33.cell 4 rfl rfl | exact hS33.cell 5 rfl rfl))⟩) (.skip (by kernel_rfl) .nil))) ?_
    refine vc_s rfl rfl rfl rfl rfl rfl ?_
    first | (refine wl_store hS33 rfl rfl sz_3 (by first | rfl | assumption) (i := 0) rfl (by first | decide | exact Nat.le_of_ble_eq_true rfl | (simp; done) | omega) ?_) | (refine wl_store hS33 rfl rfl sz_3 (by first | rfl | assumption) (i := 1) rfl (by first | decide | exact Nat.le_of_ble_eq_true rfl | (simp; done) | omega) ?_) | (refine wl_store hS33 rfl rfl sz_3 (by first | rfl | assumption) (i := 2) rfl (by first | decide | exact Nat.le_of_ble_eq_true rfl | (simp; done) | omega) ?_) | (refine wl_store hS33 rfl rfl sz_3 (by first | rfl | assumption) (i := 3) rfl (by first | decide | exact Nat.le_of_ble_eq_true rfl | (simp; done) | omega) ?_) | (refine wl_store hS33 rfl rfl sz_3 (by first | rfl | assumption) (i := 4) rfl (by first | decide | exact Nat.le_of_ble_eq_true rfl | (simp; done) | omega) ?_) | (refine wl_store hS33 rfl rfl sz_3 (by first | rfl | assumption) (i := 5) rfl (by first | decide | exact Nat.le_of_ble_eq_true rfl | (simp; done) | omega) ?_)
    intro w34 hS35; dsimp only [List.set] at hS35
    clear hS33
    refine vc_e0 (.skip (by kernel_rfl) (.skip (by kernel_rfl) (.skip (by kernel_rfl) .nil))) ?_
    refine VC.nil ?_
    exact qs_mid (.cons rfl (.cons rfl (.cons rfl (.cons rfl .nil)))) ⟨_, _, rfl, hS35.pick [1, 0, 2, 3, 4, 5, 6, 7, 8] rfl⟩
   refine dr_vc (sp := [1, 7, 8, 9, 10]) [0, 2, 3, 4, 5, 6, 7, 8, 1, 9, 10] (by kernel_rfl) ?_
   refine vc_q rfl rfl rfl (ev_load rfl ag_32 (by first | assumption | exact hS7.cell 0 rfl rfl | exact hS7.cell 1 rfl rfl | exact hS7.cell 2 rfl rfl | exact hS7.cell 3 rfl rfl)) ?_
   refine vc_q rfl rfl rfl (ev_load rfl ag_27 (by first | assumption | exact hS7.cell 0 rfl rfl | exact hS7.cell 1 rfl rfl | exact hS7.cell 2 rfl rfl | exact hS7.cell 3 rfl rfl)) ?_
   refine vc_p rfl rfl rfl (fun _ => (ev_nilCheck rfl)) ?_
   refine vc_p rfl rfl rfl (fun _ => (ev_fieldAddr rfl fo_73_1)) ?_
   refine vc_q rfl rfl rfl (ev_load rfl ag_3 (by first | assumption | exact hS7.cell 0 rfl rfl | exact hS7.cell 1 rfl rfl | exact hS7.cell 2 rfl rfl | exact hS7.cell 3 rfl rfl)) ?_
   refine vc_p rfl rfl rfl (fun _ => (ev_add rfl rfl (by omega) (by omega))) ?_
   refine vc_s rfl rfl rfl rfl rfl rfl ?_
   refine wl_alloc hS7 zr_9 rfl rfl ?_
   intro bs w36 hS36
   clear hS7
   refine vc_e (.cons (.inl ⟨rfl, (ev_load rfl ag_3 (by first | assumption | exact hS36.cell 0 rfl rfl | exact hS36.cell 1 rfl rfl | exact hS36.cell 2 rfl rfl | exact hS36.cell 3 rfl rfl | exact hS36.cell 4 rfl rfl))⟩) (.cons (.inl ⟨rfl, (ev_load rfl ag_27 (by first | assumption | exact hS36.cell 0 rfl rfl | exact hS36.cell 1 rfl rfl | exact hS36.cell 2 rfl rfl | exact hS36.cell 3 rfl rfl | exact hS36.cell 4 rfl rfl))⟩) (.cons (.inl ⟨rfl, (ev_load rfl ag_32 (by first | assumption | exact hS36.cell 0 rfl rfl | exact hS36.cell 1 rfl rfl | exact hS36.cell 2 rfl rfl | exact hS36.cell 3 rfl rfl | exact hS36.cell 4 rfl rfl))⟩) .nil))) ?_
   refine vc_s rfl rfl rfl rfl rfl rfl ?_
   refine wl_alloc hS36 zr_3 rfl rfl ?_
   intro bg w37 hS37
   clear hS36
   refine vc_e (.cons (.inl ⟨rfl, (ev_load rfl ag_3 (by first | assumption | exact hS37.cell 0 rfl rfl | exact hS37.cell 1 rfl rfl | exact hS37.cell 2 rfl rfl | exact hS37.cell 3 rfl rfl | exact hS37.cell 4 rfl rfl | exact hS37.cell 5 rfl rfl))⟩) (.cons (.inl ⟨rfl, (ev_load rfl ag_27 (by first | assumption | exact hS37.cell 0 rfl rfl | exact hS37.cell 1 rfl rfl | exact hS37.cell 2 rfl rfl | exact hS37.cell 3 rfl rfl | exact hS37.cell 4 rfl rfl | exact hS37.cell 5 rfl rfl))⟩) (.cons (.inl ⟨rfl, (ev_load rfl ag_32 (by first | assumption | exact hS37.cell 0 rfl rfl | exact hS37.cell 1 rfl rfl | exact hS37.cell 2 rfl rfl | exact hS37.cell 3 rfl rfl | exact hS37.cell 4 rfl rfl | exact hS37.cell 5 rfl rfl))⟩) .nil))) ?_
   refine vc_s rfl rfl rfl rfl rfl rfl ?_
   have hC38 := hS37.split [] [false, false, false, false, false, false, false, false, false] rfl; dsimp only [selF, pickA, nthA, List.cons_append, List.nil_append] at hC38
   refine wl_call cal_40 rfl (encode_sp hC38 (hG.starL 8 rfl) (hL.starL 8 rfl) hln hok hz) rfl ?_
   rintro e w38 ⟨_, rfl, rfl, hS38⟩; refine ⟨_, rfl, ?_⟩
   replace hS38 := hS38.join rfl; dsimp only [List.dropLast, List.cons_append, List.nil_append] at hS38; clear hC38
   clear hS37
   refine vc_e (.cons (.inl ⟨rfl, (ev_load rfl ag_3 (by first | assumption | exact hS38.cell 0 rfl rfl | exact hS38.cell 1 rfl rfl | exact hS38.cell 2 rfl rfl | exact hS38.cell 3 rfl rfl | exact hS38.cell 4 rfl rfl | exact hS38.cell 5 rfl rfl))⟩) (.cons (.inl ⟨rfl, (ev_load rfl ag_27 (by first | assumption | exact hS38.cell 0 rfl rfl | exact hS38.cell 1 rfl rfl | exact hS38.cell 2 rfl rfl | exact hS38.cell 3 rfl rfl | exact hS38.cell 4 rfl rfl | exact hS38.cell 5 rfl rfl))⟩) (.skip (by kernel_rfl) .nil))) ?_
   refine vc_s rfl rfl rfl rfl rfl rfl ?_
   first | (refine wl_store hS38 rfl rfl sz_9 (by first | rfl | assumption) (i := 0) rfl (by first | decide | exact Nat.le_of_ble_eq_true rfl | (simp; done) | omega) ?_) | (refine wl_store hS38 rfl rfl sz_9 (by first | rfl | assumption) (i := 1) rfl (by first | decide | exact Nat.le_of_ble_eq_true rfl | (simp; done) | omega) ?_) | (refine wl_store hS38 rfl rfl sz_9 (by first | rfl | assumption) (i := 2) rfl (by first | decide | exact Nat.le_of_ble_eq_true rfl | (simp; done) | omega) ?_) | (refine wl_store hS38 rfl rfl sz_9 (by first | rfl | assumption) (i := 3) rfl (by first | decide | exact Nat.le_of_ble_eq_true rfl | (simp; done) | omega) ?_) | (refine wl_store hS38 rfl rfl sz_9 (by first | rfl | assumption) (i := 4) rfl (by first | decide | exact Nat.le_of_ble_eq_true rfl | (simp; done) | omega) ?_) | (refine wl_store hS38 rfl rfl sz_9 (by first | rfl | assumption) (i := 5) rfl (by first | decide | exact Nat.le_of_ble_eq_true rfl | (simp; done) | omega) ?_)
   intro w39 hS40; dsimp only [List.set] at hS40
   clear hS38
   refine vc_e0 (.cons (.inl ⟨rfl, (ev_load rfl ag_3 (by first | assumption | exact hS40.cell 0 rfl rfl | exact hS40.cell 1 rfl rfl | exact hS40.cell 2 rfl rfl | exact hS40.cell 3 rfl rfl | exact hS40.cell 4 rfl rfl | exact hS40.cell 5 rfl rfl))⟩) (.cons (.inl ⟨rfl, (ev_load rfl ag_27 (by first | assumption | exact hS40.cell 0 rfl rfl | exact hS40.cell 1 rfl rfl | exact hS40.cell 2 rfl rfl | exact hS40.cell 3 rfl rfl | exact hS40.cell 4 rfl rfl | exact hS40.cell 5 rfl rfl))⟩) (.skip (by kernel_rfl) .nil))) ?_
   refine vc_s rfl rfl rfl rfl rfl rfl ?_
   first | (refine wl_store hS40 rfl rfl sz_3 (by first | rfl | assumption) (i := 0) rfl (by first | decide | exact Nat.le_of_ble_eq_true rfl | (simp; done) | omega) ?_) | (refine wl_store hS40 rfl rfl sz_3 (by first | rfl | assumption) (i := 1) rfl (by first | decide | exact Nat.le_of_ble_eq_true rfl | (simp; done) | omega) ?_) | (refine wl_store hS40 rfl rfl sz_3 (by first | rfl | assumption) (i := 2) rfl (by first | decide | exact Nat.le_of_ble_eq_true rfl | (simp; done) | omega) ?_) | (refine wl_store hS40 rfl rfl sz_3 (by first | rfl | assumption) (i := 3) rfl (by first | decide | exact Nat.le_of_ble_eq_true rfl | (simp; done) | omega) ?_) | (refine wl_store hS40 rfl rfl sz_3 (by first | rfl | assumption) (i := 4) rfl (by first | decide | exact Nat.le_of_ble_eq_true rfl | (simp; done) | omega) ?_) | (refine wl_store hS40 rfl rfl sz_3 (by first | rfl | assumption) (i := 5) rfl (by first | decide | exact Nat.le_of_ble_eq_true rfl | (simp; done) | omega) ?_)
   intro w41 hS42; dsimp only [List.set] at hS42
   clear hS40
   refine vc_e0 (.skip (by kernel_rfl) (.skip (by kernel_rfl) (.skip (by kernel_rfl) .nil))) ?_
   refine VC.nil ?_
   exact qs_mid (.cons rfl (.cons rfl (.cons rfl (.cons rfl .nil)))) ⟨_, _, rfl, hS42.pick [1, 0, 2, 3, 4, 5, 6, 7, 8] rfl⟩
  refine dr_vc (sp := [1, 7, 8, 9, 10]) [0, 2, 3, 4, 5, 6, 8, 7, 1, 9, 10] (by kernel_rfl) ?_
  refine vc_q rfl rfl rfl (ev_load rfl ag_32 (by first | assumption | exact hS7.cell 0 rfl rfl | exact hS7.cell 1 rfl rfl | exact hS7.cell 2 rfl rfl | exact hS7.cell 3 rfl rfl)) ?_
  refine vc_q rfl rfl rfl (ev_load rfl ag_27 (by first | assumption | exact hS7.cell 0 rfl rfl | exact hS7.cell 1 rfl rfl | exact hS7.cell 2 rfl rfl | exact hS7.cell 3 rfl rfl)) ?_
  refine vc_p rfl rfl rfl (fun _ => (ev_nilCheck rfl)) ?_
  refine vc_p rfl rfl rfl (fun _ => (ev_fieldAddr rfl fo_73_1)) ?_
  refine vc_q rfl rfl rfl (ev_load rfl ag_3 (by first | assumption | exact hS7.cell 0 rfl rfl | exact hS7.cell 1 rfl rfl | exact hS7.cell 2 rfl rfl | exact hS7.cell 3 rfl rfl)) ?_
  refine vc_p rfl rfl rfl (fun _ => (ev_add rfl rfl (by omega) (by omega))) ?_
  refine vc_s rfl rfl rfl rfl rfl rfl ?_
  refine wl_alloc hS7 zr_3 rfl rfl ?_
  intro bg w43 hS43
  clear hS7
  refine vc_e (.cons (.inl ⟨rfl, (ev_load rfl ag_3 (by first | assumption | exact hS43.cell 0 rfl rfl | exact hS43.cell 1 rfl rfl | exact hS43.cell 2 rfl rfl | exact hS43.cell 3 rfl rfl | exact hS43.cell 4 rfl rfl))⟩) (.cons (.inl ⟨rfl, (ev_load rfl ag_27 (by first | assumption | exact hS43.cell 0 rfl rfl | exact hS43.cell 1 rfl rfl | exact hS43.cell 2 rfl rfl | exact hS43.cell 3 rfl rfl | exact hS43.cell 4 rfl rfl))⟩) (.cons (.inl ⟨rfl, (ev_load rfl ag_32 (by first | assumption | exact hS43.cell 0 rfl rfl | exact hS43.cell 1 rfl rfl | exact hS43.cell 2 rfl rfl | exact hS43.cell 3 rfl rfl | exact hS43.cell 4 rfl rfl))⟩) .nil))) ?_
  refine vc_s rfl rfl rfl rfl rfl rfl ?_
  refine wl_alloc hS43 zr_9 rfl rfl ?_
  intro bs w44 hS44
  clear hS43
  refine vc_e (.cons (.inl ⟨rfl, (ev_load rfl ag_3 (by first | assumption | exact hS44.cell 0 rfl rfl | exact hS44.cell 1 rfl rfl | exact hS44.cell 2 rfl rfl | exact hS44.cell 3 rfl rfl | exact hS44.cell 4 rfl rfl | exact hS44.cell 5 rfl rfl))⟩) (.cons (.inl ⟨rfl, (ev_load rfl ag_27 (by first | assumption | exact hS44.cell 0 rfl rfl | exact hS44.cell 1 rfl rfl | exact hS44.cell 2 rfl rfl | exact hS44.cell 3 rfl rfl | exact hS44.cell 4 rfl rfl | exact hS44.cell 5 rfl rfl))⟩) (.cons (.inl ⟨rfl, (ev_load rfl ag_32 (by first | assumption | exact hS44.cell 0 rfl rfl | exact hS44.cell 1 rfl rfl | exact hS44.cell 2 rfl rfl | exact hS44.cell 3 rfl rfl | exact hS44.cell 4 rfl rfl | exact hS44.cell 5 rfl rfl))⟩) .nil))) ?_
  refine vc_s rfl rfl rfl rfl rfl rfl ?_
  have hC45 := hS44.split [] [false, false, false, false, false, false, false, false, false] rfl; dsimp only [selF, pickA, nthA, List.cons_append, List.nil_append] at hC45
  refine wl_call cal_40 rfl (encode_sp hC45 (hG.starL 8 rfl) (hL.starL 8 rfl) hln hok hz) rfl ?_
  rintro e w45 ⟨_, rfl, rfl, hS45⟩; refine ⟨_, rfl, ?_⟩
  replace hS45 := hS45.join rfl; dsimp only [List.dropLast, List.cons_append, List.nil_append] at hS45; clear hC45
  clear hS44
  refine vc_e (.cons (.inl ⟨rfl, (ev_load rfl ag_3 (by first | assumption | exact hS45.cell 0 rfl rfl | exact hS45.cell 1 rfl rfl | exact hS45.cell 2 rfl rfl | exact hS45.cell 3 rfl rfl | exact hS45.cell 4 rfl rfl | exact hS45.cell 5 rfl rfl))⟩) (.cons (.inl ⟨rfl, (ev_load rfl ag_27 (by first | assumption | exact hS45.cell 0 rfl rfl | exact hS45.cell 1 rfl rfl | exact hS45.cell 2 rfl rfl | exact hS45.cell 3 rfl rfl | exact hS45.cell 4 rfl rfl | exact hS45.cell 5 rfl rfl))⟩) (.skip (by kernel_rfl) .nil))) ?_
  refine vc_s rfl rfl rfl rfl rfl rfl ?_
  first | (refine wl_store hS45 rfl rfl sz_9 (by first | rfl | assumption) (i := 0) rfl (by first | decide | exact Nat.le_of_ble_eq_true rfl | (simp; done) | omega) ?_) | (refine wl_store hS45 rfl rfl sz_9 (by first | rfl | assumption) (i := 1) rfl (by first | decide | exact Nat.le_of_ble_eq_true rfl | (simp; done) | omega) ?_) | (refine wl_store hS45 rfl rfl sz_9 (by first | rfl | assumption) (i := 2) rfl (by first | decide | exact Nat.le_of_ble_eq_true rfl | (simp; done) | omega) ?_) | (refine wl_store hS45 rfl rfl sz_9 (by first | rfl | assumption) (i := 3) rfl (by first | decide | exact Nat.le_of_ble_eq_true rfl | (simp; done) | omega) ?_) | (refine wl_store hS45 rfl rfl sz_9 (by first | rfl | assumption) (i := 4) rfl (by first | decide | exact Nat.le_of_ble_eq_true rfl | (simp; done) | omega) ?_) | (refine wl_store hS45 rfl rfl sz_9 (by first | rfl | assumption) (i := 5) rfl (by first | decide | exact Nat.le_of_ble_eq_true rfl | (simp; done) | omega) ?_)
  intro w46 hS47; dsimp only [List.set] at hS47
  clear hS45
  refine vc_e0 (.cons (.inl ⟨rfl, (ev_load rfl ag_3 (by first | assumption | exact hS47.cell 0 rfl rfl | exact hS47.cell 1 rfl rfl | exact hS47.cell 2 rfl rfl | exact hS47.cell 3 rfl rfl | exact hS47.cell 4 rfl rfl | exact hS47.cell 5 rfl rfl))⟩) (.cons (.inl ⟨rfl, (ev_load rfl ag_27 (by first | assumption | exact hS47.cell 0 rfl rfl | exact hS47.cell 1 rfl rfl | exact hS47.cell 2 rfl rfl | exact hS47.cell 3 rfl rfl | exact hS47.cell 4 rfl rfl | exact hS47.cell 5 rfl rfl))⟩) (.skip (by kernel_rfl) .nil))) ?_
  refine vc_s rfl rfl rfl rfl rfl rfl ?_
  first | (refine wl_store hS47 rfl rfl sz_3 (by first | rfl | assumption) (i := 0) rfl (by first | decide | exact Nat.le_of_ble_eq_true rfl | (simp; done) | omega) ?_) | (refine wl_store hS47 rfl rfl sz_3 (by first | rfl | assumption) (i := 1) rfl (by first | decide | exact Nat.le_of_ble_eq_true rfl | (simp; done) | omega) ?_) | (refine wl_store hS47 rfl rfl sz_3 (by first | rfl | assumption) (i := 2) rfl (by first | decide | exact Nat.le_of_ble_eq_true rfl | (simp; done) | omega) ?_) | (refine wl_store hS47 rfl rfl sz_3 (by first | rfl | assumption) (i := 3) rfl (by first | decide | exact Nat.le_of_ble_eq_true rfl | (simp; done) | omega) ?_) | (refine wl_store hS47 rfl rfl sz_3 (by first | rfl | assumption) (i := 4) rfl (by first | decide | exact Nat.le_of_ble_eq_true rfl | (simp; done) | omega) ?_) | (refine wl_store hS47 rfl rfl sz_3 (by first | rfl | assumption) (i := 5) rfl (by first | decide | exact Nat.le_of_ble_eq_true rfl | (simp; done) | omega) ?_)
  intro w48 hS49; dsimp only [List.set] at hS49
  clear hS47
  refine vc_e0 (.skip (by kernel_rfl) (.skip (by kernel_rfl) (.skip (by kernel_rfl) .nil))) ?_
  refine VC.nil ?_
  exact qs_mid (.cons rfl (.cons rfl (.cons rfl (.cons rfl .nil)))) ⟨_, _, rfl, hS49.pick [0, 1, 2, 3, 4, 5, 6, 7, 8] rfl⟩
 rintro _ w6 ⟨bs, bg, rfl, hS6⟩
 refine wc_seq (wc_region ?_)
 refine wl_makeFunc rfl rfl ?_
 refine wl_makeFunc rfl rfl ?_
 refine wl_makeFunc rfl rfl ?_
 refine wl_makeFunc rfl rfl ?_
 refine wl_makeFunc rfl rfl ?_
 refine wl_makeFunc rfl rfl ?_
 refine wl_rowBuild fnC [⟨41, [], [ptrV bj 0, ptrV bg 0]⟩, ⟨43, [], [ptrV bj 0, ptrV bg 0, ptrV bs 0]⟩, ⟨44, [], [ptrV bj 0, ptrV bg 0]⟩, ⟨45, [], [ptrV bj 0, ptrV bs 0]⟩, ⟨47, [], [ptrV bj 0, ptrV bl 0]⟩, ⟨49, [], [ptrV bj 0]⟩] hS6 rfl Tryz.underlying112 ifz_75 rfl rfl rfl rfl (by first | rfl | simp [RowC.cells, fillL, splice]) rfl ?_
 intro b50 w50 hS50
 clear hS6
 have hA := Sat.fold (As := [rowT fnC _ _, mapT intK mb (jmG J.B)]) (hS50.pick [0, 7, 5, 8, 6, 4, 3, 1, 2, 9] rfl)
 have hE := tJ_shut (x := (D, J.C)) (hA.reorder [1, 2, 3, 4, 5, 6, 7, 0, 8] rfl)
 have hG9 := ((hE.reorder [2, 0, 1] rfl).flat).reorder [2, 3, 0, 1] rfl; dsimp only [pickA, nthA, List.cons_append, List.nil_append] at hG9
 refine wl_call cal_36 rfl (write1_sp (gs := [gTrunc J.base, gWrite J.base (encJ l), gSync J.base, gNote ((encJ l).length : Int), gHome J.base l, gNote 0]) (stp_cons (stp41 hJ.2.1 hG hO hL hrm hes) (stp_cons (stp43 hJ.2.1 hG hO hL hrm hes) (stp_cons (stp44 hJ.2.1 hG hO hL hrm hes) (stp_cons (stp45 hJ.2.1 hG hO hL hrm hes) (stp_cons (stp47 hJ.2.1 hG hO hL hrm hes) (stp_cons (stp49 hJ.2.1 hG hO hL hrm hes) stp_nil)))))) rfl (by simp) (D, J.C) hJ.1 hG9) rfl ?_
 rintro e w9 ⟨_, rfl, rfl, hI9, hS9⟩; refine ⟨_, rfl, ?_⟩
 rw [run_put] at hS9 hI9 ⊢
 obtain ⟨R, hR⟩ : ∃ R, R = putR0 D J.C J.base l := ⟨_, rfl⟩; rw [← hR] at hS9 hI9 ⊢
 have hT := tJ_open ((Sat.fold (As := [rowT fnC _ _, mapT intK mb (jmG J.B)]) (hS9.reorder [2, 3, 0, 1] rfl)).reorder [1, 2, 0] rfl)
 have hU := (hT.reorder [7, 0, 1, 2, 3, 4, 5, 6, 8] rfl).flat; dsimp only [List.cons_append, List.nil_append] at hU
 clear hS50
 refine wl_assign rfl rfl (wl_nil (qs_seq ?_))
 refine wc_sub (L' := [(7, _), (2, _), (3, _)]) (.cons rfl (.cons rfl (.cons rfl .nil))) ?_
 refine wc_seq (wc_seq (wc_region (wl_move rfl rfl ?_)))
 refine wl_neq rfl rfl rfl ?_
 refine wl_nil (qs_seq ?_)
 refine wc_condD rfl (fun h51 => ?_) (fun h51 => ?_)
 ·have h2 := h51
  refine wc_seq (wc_region ?_)
  refine wl_load rfl ag_27 (by first | assumption | exact hU.cell 2 rfl rfl | exact hU.cell 4 rfl rfl | exact hU.cell 5 rfl rfl | exact hU.cell 6 rfl rfl | exact hU.cell 7 rfl rfl | exact hU.cell 8 rfl rfl) rfl ?_
  refine wl_nilCheck rfl rfl ?_
  refine wl_fieldAddr rfl fo_73_4 rfl ?_
  first | (refine wl_store hU rfl rfl sz_4 (by first | rfl | assumption | exact hU.own_one 0 rfl) (i := 2) rfl (by first | decide | exact Nat.le_of_ble_eq_true rfl | (simp; done) | omega) ?_) | (refine wl_store hU rfl rfl sz_4 (by first | rfl | assumption | exact hU.own_one 0 rfl) (i := 4) rfl (by first | decide | exact Nat.le_of_ble_eq_true rfl | (simp; done) | omega) ?_) | (refine wl_store hU rfl rfl sz_4 (by first | rfl | assumption | exact hU.own_one 0 rfl) (i := 5) rfl (by first | decide | exact Nat.le_of_ble_eq_true rfl | (simp; done) | omega) ?_) | (refine wl_store hU rfl rfl sz_4 (by first | rfl | assumption | exact hU.own_one 0 rfl) (i := 6) rfl (by first | decide | exact Nat.le_of_ble_eq_true rfl | (simp; done) | omega) ?_) | (refine wl_store hU rfl rfl sz_4 (by first | rfl | assumption | exact hU.own_one 0 rfl) (i := 7) rfl (by first | decide | exact Nat.le_of_ble_eq_true rfl | (simp; done) | omega) ?_) | (refine wl_store hU rfl rfl sz_4 (by first | rfl | assumption | exact hU.own_one 0 rfl) (i := 8) rfl (by first | decide | exact Nat.le_of_ble_eq_true rfl | (simp; done) | omega) ?_)
  intro w52 hS53; dsimp only [List.set] at hS53
  clear hU
  refine wl_nil (qs_seq (wc_seq (wc_region (wl_move rfl rfl (wl_assign rfl rfl (wl_nil (qs_seq (wc_ret (qs_then_ret ?_)))))))))
  refine fin1 (.inr rfl) rfl rfl ?_
  exact ⟨_, rfl, by rw [commitR_c hbad hrt hR h2]; rfl, by rw [commitR_c hbad hrt hR h2]; exact jT_shut (J := ⟨J.base, R.C, J.B, true⟩) ⟨hI9, hJ.2.1, hJ.2.2⟩ (hS53.pick [2, 4, 1, 3, 9] rfl)⟩
 have h2 : R.e = 0 := Decidable.not_not.1 h51
 refine wc_skip (qs_seq (wc_seq (wc_seq (wc_region ?_))))
 refine wl_load rfl ag_32 (by first | assumption | exact hU.cell 2 rfl rfl | exact hU.cell 4 rfl rfl | exact hU.cell 5 rfl rfl | exact hU.cell 6 rfl rfl | exact hU.cell 7 rfl rfl | exact hU.cell 8 rfl rfl) rfl ?_
 first | refine wl_lenL Tryz.underlying32 rfl rfl ?_ | refine wl_lenO 0 hU Tryz.underlying32 rfl rfl rfl ?_
 refine wl_move rfl rfl (wl_nil (qs_seq (wc_block ?_)))
 refine wc_loop (fun K0 E0 W0 => ∃ (i : Nat), K0 = l.length - i ∧ E0 = [(2, ptrV bj 0), (40, .slice ao l.length cap), (41, intV (l.length : Int)), (42, intV (i : Int))] ∧ Sat W0 [blkT bj [ptrV jp 0], blkT jp (jV dp J.base cp mb J.bad), mapT intK mb (jmG (withB J.B (l.take i))), blkT cp (cellV dp R.C), dT dp R.D, F] ∧ (i ≤ l.length)) (L0 := [(2, _), (40, _), (41, _), (42, _)]) (l.length - 0) (.cons rfl (.cons rfl (.cons rfl (.cons rfl .nil)))) ⟨0, rfl, rfl, hU.pick [5, 2, 1, 4, 3, 9] rfl, by omega⟩ ?_
 rintro _ _ w54 ⟨i, rfl, rfl, hS54, hi⟩
 refine wc_seq (wc_region ?_)
 refine wl_lss rfl rfl rfl ?_
 refine wl_nil (qs_seq (wc_seq ?_))
 refine wc_condD rfl (fun h55 => ?_) (fun h55 => ?_)
 ·obtain ⟨x, hx⟩ : ∃ x, l[i]? = some x := ⟨_, List.getElem?_eq_getElem (by omega)⟩
  obtain ⟨b, off, rfl, hc⟩ := (hL.sat hS54 5 rfl).get hx
  refine wc_skip (qs_seq (wc_seq (wc_block (wc_seq (wc_region ?_)))))
  refine wl_indexAddr i rfl rfl (by first | rfl | omega) (by omega) es_32 rfl ?_
  refine wl_loadAt rfl ag_34 sz_34 (vs := bV x) hc rfl ?_
  refine wl_alloc hS54 zr_34 rfl rfl ?_
  intro b56 w56 hS56
  clear hS54
  first | (refine wl_storeA hS56 rfl rfl sz_34 rfl (by first | rfl | (simp [allOne, Value.oneCell']; done) | assumption | exact hone) (i := 0) rfl (by first | decide | exact Nat.le_of_ble_eq_true rfl | (simp; done) | omega) ?_) | (refine wl_storeA hS56 rfl rfl sz_34 rfl (by first | rfl | (simp [allOne, Value.oneCell']; done) | assumption | exact hone) (i := 1) rfl (by first | decide | exact Nat.le_of_ble_eq_true rfl | (simp; done) | omega) ?_) | (refine wl_storeA hS56 rfl rfl sz_34 rfl (by first | rfl | (simp [allOne, Value.oneCell']; done) | assumption | exact hone) (i := 2) rfl (by first | decide | exact Nat.le_of_ble_eq_true rfl | (simp; done) | omega) ?_) | (refine wl_storeA hS56 rfl rfl sz_34 rfl (by first | rfl | (simp [allOne, Value.oneCell']; done) | assumption | exact hone) (i := 4) rfl (by first | decide | exact Nat.le_of_ble_eq_true rfl | (simp; done) | omega) ?_)
  intro w57 hS58; dsimp only [List.set] at hS58
  clear hS56
  refine wl_nil (qs_seq (wc_seq ?_))
  have hS59 := hS58.drew
  refine wc_draw [0, 1, 2, 3, 4, 5, 6, 7, 8] [8] mix (by kernel_rfl) ?_
  refine vc_q rfl rfl rfl (ev_load rfl ag_27 (by first | assumption | exact hS59.cell 0 rfl rfl | exact hS59.cell 1 rfl rfl | exact hS59.cell 2 rfl rfl | exact hS59.cell 4 rfl rfl)) ?_
  refine vc_p rfl rfl rfl (fun _ => (ev_nilCheck rfl)) ?_
  refine vc_p rfl rfl rfl (fun _ => (ev_fieldAddr rfl fo_73_3)) ?_
  refine vc_q rfl rfl rfl (ev_load rfl ag_71 (by first | assumption | exact hS59.cell 0 rfl rfl | exact hS59.cell 1 rfl rfl | exact hS59.cell 2 rfl rfl | exact hS59.cell 4 rfl rfl)) ?_
  refine vc_p rfl rfl rfl (fun _ => (ev_fieldAddr rfl fo_34_0)) ?_
  refine vc_q rfl rfl rfl (ev_load rfl ag_3 (by first | assumption | exact hS59.cell 0 rfl rfl | exact hS59.cell 1 rfl rfl | exact hS59.cell 2 rfl rfl | exact hS59.cell 4 rfl rfl)) ?_
  refine vc_p rfl rfl rfl (fun _ => (ev_fieldAddr rfl fo_34_1)) ?_
  refine vc_q rfl rfl rfl (ev_load rfl ag_9 (by first | assumption | exact hS59.cell 0 rfl rfl | exact hS59.cell 1 rfl rfl | exact hS59.cell 2 rfl rfl | exact hS59.cell 4 rfl rfl)) ?_
  refine vc_s rfl rfl rfl rfl rfl rfl ?_
  first | refine wl_mapUpdate (k := x.n) 3 hS59 keysInt Tryz.underlying71 rfl rfl rfl rfl ?_
  intro w60 hS60; dsimp only [List.set] at hS60
  clear hS59
  refine vc_e0 (.skip (by kernel_rfl) (.skip (by kernel_rfl) (.skip (by kernel_rfl) (.skip (by kernel_rfl) .nil)))) ?_
  refine VC.nil (qs_seq ?_)
  refine wc_sub (L' := [(9, _), (2, _), (40, _), (41, _), (42, _)]) (.cons rfl (.cons rfl (.cons rfl (.cons rfl (.cons rfl .nil))))) ?_
  refine wc_seq (wc_region ?_)
  refine wl_fieldAddr rfl fo_34_1 rfl ?_
  refine wl_load rfl ag_9 (by first | assumption | exact hS60.cell 0 rfl rfl | exact hS60.cell 1 rfl rfl | exact hS60.cell 2 rfl rfl | exact hS60.cell 4 rfl rfl) rfl ?_
  refine wl_eqlS rfl rfl rfl ?_
  refine wl_nil (qs_seq ?_)
  refine wc_condD rfl (fun h61 => ?_) (fun h61 => ?_)
  ·have hx4 : x.d = [] := h61
   have hS62 := hS60.drew
   refine wc_draw [0, 1, 2, 3, 4, 5, 6] [6] mix (by kernel_rfl) ?_
   refine vc_q rfl rfl rfl (ev_load rfl ag_27 (by first | assumption | exact hS62.cell 0 rfl rfl | exact hS62.cell 1 rfl rfl | exact hS62.cell 2 rfl rfl | exact hS62.cell 4 rfl rfl)) ?_
   refine vc_p rfl rfl rfl (fun _ => (ev_nilCheck rfl)) ?_
   refine vc_p rfl rfl rfl (fun _ => (ev_fieldAddr rfl fo_73_3)) ?_
   refine vc_q rfl rfl rfl (ev_load rfl ag_71 (by first | assumption | exact hS62.cell 0 rfl rfl | exact hS62.cell 1 rfl rfl | exact hS62.cell 2 rfl rfl | exact hS62.cell 4 rfl rfl)) ?_
   refine vc_p rfl rfl rfl (fun _ => (ev_fieldAddr rfl fo_34_0)) ?_
   refine vc_q rfl rfl rfl (ev_load rfl ag_3 (by first | assumption | exact hS62.cell 0 rfl rfl | exact hS62.cell 1 rfl rfl | exact hS62.cell 2 rfl rfl | exact hS62.cell 4 rfl rfl)) ?_
   refine vc_s rfl rfl rfl rfl rfl rfl ?_
   refine wl_delete (k := x.n) 3 hS62 keysInt Tryz.underlying71 rfl rfl rfl rfl ?_
   intro w63 hS63; dsimp only [List.set] at hS63
   clear hS62
   refine vc_e0 (.skip (by kernel_rfl) (.skip (by kernel_rfl) (.skip (by kernel_rfl) .nil))) ?_
   refine VC.nil (qs_block_normal (qs_seq ?_))
   refine wc_sub (L' := [(2, _), (40, _), (41, _), (42, _)]) (.cons rfl (.cons rfl (.cons rfl (.cons rfl .nil)))) ?_
   refine wc_region ?_
   refine wl_add rfl rfl (by omega) (by omega) rfl ?_
   refine wl_move rfl rfl (wl_nil ?_)
   exact qs_round (L1 := [(2, _), (40, _), (41, _), (42, intV ((i + 1 : Nat) : Int))]) (.cons rfl (.cons rfl (.cons rfl (.cons rfl .nil)))) (k1 := l.length - (i + 1)) (by omega) ⟨i + 1, rfl, rfl, by rw [withB_snoc hx, hx4, ← jm_del]; exact hS63.pick [1, 2, 3, 4, 5, 6] rfl, by omega⟩
  have hx4 : x.d ≠ [] := h61
  refine wc_skip (qs_block_normal (qs_seq (wc_region ?_)))
  refine wl_add rfl rfl (by omega) (by omega) rfl ?_
  refine wl_move rfl rfl (wl_nil ?_)
  exact qs_round (L1 := [(2, _), (40, _), (41, _), (42, intV ((i + 1 : Nat) : Int))]) (.cons rfl (.cons rfl (.cons rfl (.cons rfl .nil)))) (k1 := l.length - (i + 1)) (by omega) ⟨i + 1, rfl, rfl, by rw [withB_snoc hx, ← jm_put hx4]; exact hS60.pick [1, 2, 3, 4, 5, 6] rfl, by omega⟩
 refine wc_exit (qs_then_exit (qs_then_exit (qs_block_exit (qs_seq (wc_seq (wc_region (wl_assign rfl rfl (wl_nil (qs_seq (wc_ret ?_))))))))))
 refine fin1 (.inr rfl) rfl rfl ?_
 have hz := hS54.pick [1, 3, 2, 4, 5] rfl; rw [hbad, List.take_of_length_le (by omega)] at hz
 exact ⟨_, rfl, by rw [commitR_d hbad hrt hR h2], by rw [commitR_d hbad hrt hR h2]; exact jT_shut (J := ⟨J.base, R.C, withB J.B l, false⟩) ⟨hI9, hJ.2.1, withB_ran hJ.2.2 hrt⟩ hz⟩
theorem jread {w : World} {jp dp : Nat} {J : JS} {F : Th} (hS : Sat w [jT jp dp J, F]) (n : Int) : Calls Tryz.prog 11 #[ptrV jp 0, intV n] w (Ret fun v w' => v = strV (J.B n) ∧ Sat w' [jT jp dp J, F]) := by
  obtain ⟨cp, mb, hJ, hS⟩ := jT_open hS
  have h2 := hS.split [0, 2] [true, false, true, false] rfl; dsimp only [selF, pickA, nthA, List.cons_append, List.nil_append] at h2
  refine (jread_sp h2 n).mono fun e w' h => h.mono fun v w' ⟨h3, h4⟩ => ⟨h3, ?_⟩
  have h5 := h4.join rfl; dsimp only [List.dropLast, List.cons_append, List.nil_append] at h5
  exact jT_shut hJ (h5.reorder [0, 2, 1, 3] rfl)
theorem jblocks {w : World} {jp dp : Nat} {J : JS} {F : Th} (hS : Sat w [jT jp dp J, F]) : Calls Tryz.prog 13 #[ptrV jp 0] w (Ret fun v w' => Sat w' [rowT jbC v (listB J.B), jT jp dp J, F]) := by
  obtain ⟨cp, mb, hJ, hS⟩ := jT_open hS
  have h2 := hS.split [0, 2] [true, false, true, false] rfl; dsimp only [selF, pickA, nthA, List.cons_append, List.nil_append] at h2
  refine (blocks_sp h2 hJ.2.2).mono fun e w' h => h.mono fun v w' h4 => ?_
  have h5 := h4.join rfl; dsimp only [List.dropLast, List.cons_append, List.nil_append] at h5
  exact (jT_shut hJ (h5.reorder [1, 3, 2, 0, 4] rfl)).reorder [1, 0, 2] rfl
end Go.Proofs.YtfmkodmmbgibgaaGreatDoor
/- Parts of slices that are read: x[A:B]. Conditions: the rules' own hypotheses. -/
namespace Go.Proofs.YtfmkodmmbgibgaaGreatDoor.M
open Go.RowKit
/-- x[A:B] -/
def viewV (sz : Nat) (v : Value) (A B : Nat) : Value := match v with
  | .slice a _ cap => .slice (if cap = A then a else a.map fun p => p.add (A * sz)) (B - A) (cap - A)
  | v => v
section
variable {P : Program} {n : Nat} {ops : Array Oper} {Q : Exit → Act → World → Prop} {rest : List Oper} {L : Env} {w : World} {d : Nat} {ty : TypeId} {pos : String} {aft : Array Edge}
theorem ev_view {x : Operand} {t e m cap sz : Nat} {a : Option Addr} {lo hi : Option Operand} (A B : Nat) (hu : P.underlying t = some (.slice e)) (hs : szOf P e = some sz) (hx : look L x = some (.slice a m cap)) (hlo : bndL L lo 0 A) (hhi : bndL L hi m B) (h1 : A ≤ B) (h2 : B ≤ cap) :
    Ev P L w ⟨some d, .slice t x lo hi none, ty, pos, aft, none⟩ (viewV sz (.slice a m cap) A B) := fun ρ hρ => by
  have hb := run_bounds (P := P) true m cap _ _ A B (hlo.val hρ) (hhi.val hρ) h1 h2 w
  simp only [execOp, hρ _ _ hx]
  simp [Instr.sliceAt, Instr.slice, run_underlying hu, hb, run_sizeOf hs, viewV]
theorem wl_view {x : Operand} {t e m cap sz : Nat} {a : Option Addr} {lo hi : Option Operand} (A B : Nat) (hu : P.underlying t = some (.slice e)) (hs : szOf P e = some sz) (hx : look L x = some (.slice a m cap)) (hlo : bndL L lo 0 A) (hhi : bndL L hi m B) (h1 : A ≤ B) (h2 : B ≤ cap) (hd : Nat.blt d n = true)
    (hk : wl P n ops Q rest ((d, viewV sz (.slice a m cap) A B) :: L) w) : wl P n ops Q (⟨some d, .slice t x lo hi none, ty, pos, aft, none⟩ :: rest) L w := wl_val hd (ev_view A B hu hs hx hlo hhi h1 h2) hk
end
theorem view_some {sz b o m cap A B : Nat} (h : A < cap) : viewV sz (.slice (some ⟨b, o, none⟩) m cap) A B = .slice (some ⟨b, o + A * sz, none⟩) (B - A) (cap - A) := by
  unfold viewV
  dsimp only
  rw [if_neg (by omega), Option.map_some, addr_add]
section
variable {α : Type} {C : RowC α} {l : List α} {w : World}
theorem RdL.view {a : Option Addr} {m cap A B : Nat} (h : RdL C (.slice a m cap) l w) (hc : m ≤ cap) (h1 : A ≤ B) (h2 : B ≤ l.length) : RdL C (viewV C.size (.slice a m cap) A B) ((l.take B).drop A) w := by
  obtain ⟨ao, cap', e1, e2, e3⟩ := h
  cases e1
  have hl : ((l.take B).drop A).length = B - A := by rw [List.length_drop, List.length_take]; omega
  refine ⟨_, _, by rw [hl]; rfl, by omega, fun i x hx => ?_⟩
  have hi := (List.getElem?_eq_some_iff.1 hx).1
  rw [List.getElem?_drop, List.getElem?_take, if_pos (by omega)] at hx
  obtain ⟨b, off, rfl, hcell⟩ := e3 _ _ hx
  refine ⟨b, off + A * C.size, by rw [if_neg (by omega), Option.map_some, addr_add], fun j u hu => ?_⟩
  have := hcell j u hu
  rw [Nat.add_mul] at this
  rw [show off + A * C.size + i * C.size + j = off + (A * C.size + i * C.size) + j by omega]
  exact this
theorem RdL.at_ {b off m cap i : Nat} {a : α} (h : RdL C (.slice (some ⟨b, off, none⟩) m cap) l w) (ha : l[i]? = some a) : ∀ (j : Nat) (u : Value), (C.enc a)[j]? = some u → w.cell? ⟨b, off + i * C.size + j, none⟩ = some u := by
  obtain ⟨b', off', e, h2⟩ := h.get ha
  cases e
  exact h2
end
end Go.Proofs.YtfmkodmmbgibgaaGreatDoor.M
