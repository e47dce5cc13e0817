/- reference 25 -/
import Derived.Test.YtgnhfhhmipcgcaaGreatDoorRz1
import Derived.Test.YtgnhfhhmipcgcaaGreatDoorPr
namespace Go.Proofs.YtgnhfhhmipcgcaaGreatDoor
open Go.RowKit M
set_option linter.unusedVariables false
set_option maxRecDepth 100000 in
theorem qBytes_sp {w : World} {F : Th} (hS : Sat w [F]) (x : PipeD) (hd : x.d.length ≤ 64) (hr : inI x.r) (hw : inI x.w) :
    Calls Tryz.prog 70 #[.agg #[strV x.d, intV x.r, intV x.w]] w (Ret fun v w' => v = strV (encP x) ∧ Sat w' [F]) := by
  refine calls_enter Tryz.func70 rfl Tryz.ntmps70 rfl ?_
  refine wc_seq ?_
  refine wc_region ?_
  refine wl_box hS rfl rfl rfl ?_
  intro b1 w1 hS1
  refine wl_assign rfl rfl ?_
  refine wl_nil ?_
  refine qs_seq ?_
  refine wc_seq ?_
  have hS2 := hS1.drew
  refine wc_draw [0, 1, 3, 4, 7, 8, 2, 5, 6, 9, 10, 11] [2, 5, 9] mix (by kernel_rfl) ?_
  refine vc_p rfl rfl rfl (fun _ => (ev_fieldAddr rfl fo_39_0)) ?_
  refine vc_q rfl rfl rfl (ev_load rfl ag_9 (by first | assumption | exact hS2.cell 0 rfl rfl)) ?_
  refine vc_p rfl rfl rfl (fun _ => (ev_fieldAddr rfl fo_39_1)) ?_
  refine vc_q rfl rfl rfl (ev_load rfl ag_3 (by first | assumption | exact hS2.cell 0 rfl rfl)) ?_
  refine vc_p rfl rfl rfl (fun _ => (ev_fieldAddr rfl fo_39_2)) ?_
  refine vc_q rfl rfl rfl (ev_load rfl ag_3 (by first | assumption | exact hS2.cell 0 rfl rfl)) ?_
  refine vc_s rfl rfl rfl rfl rfl rfl ?_
  have hC3 := hS2.split [] [false, false] rfl; dsimp only [selF, pickA, nthA, List.cons_append, List.nil_append] at hC3
  refine wl_call cal_88 rfl (r1Text_sp hC3 x.d (by omega)) rfl ?_
  rintro e w3 ⟨_, rfl, rfl, hS3⟩; refine ⟨_, rfl, ?_⟩
  replace hS3 := hS3.join rfl; dsimp only [List.dropLast, List.cons_append, List.nil_append] at hS3; clear hC3
  clear hS2
  have het := encT_len (s := x.d) (by omega)
  refine vc_e (.cons (.inl ⟨rfl, (ev_load rfl ag_3 (by first | assumption | exact hS3.cell 0 rfl rfl))⟩) (.cons (.inl ⟨rfl, (ev_load rfl ag_3 (by first | assumption | exact hS3.cell 0 rfl rfl))⟩) (.skip (by kernel_rfl) .nil))) ?_
  refine vc_s rfl rfl rfl rfl rfl rfl ?_
  have hC4 := hS3.split [] [false, false] rfl; dsimp only [selF, pickA, nthA, List.cons_append, List.nil_append] at hC4
  refine wl_call cal_89 rfl (r1Int_sp hC4 x.r hr) rfl ?_
  rintro e w4 ⟨_, rfl, rfl, hS4⟩; refine ⟨_, rfl, ?_⟩
  replace hS4 := hS4.join rfl; dsimp only [List.dropLast, List.cons_append, List.nil_append] at hS4; clear hC4
  clear hS3
  have hil1 := (itoa_len hr).1
  refine vc_e (.cons (.inl ⟨rfl, (ev_load rfl ag_3 (by first | assumption | exact hS4.cell 0 rfl rfl))⟩) (.skip (by kernel_rfl) (.skip (by kernel_rfl) .nil))) ?_
  refine vc_p rfl rfl rfl (fun _ => (ev_concat rfl rfl (by first | omega | (simp; omega)))) ?_
  refine vc_s rfl rfl rfl rfl rfl rfl ?_
  have hC5 := hS4.split [] [false, false] rfl; dsimp only [selF, pickA, nthA, List.cons_append, List.nil_append] at hC5
  refine wl_call cal_89 rfl (r1Int_sp hC5 x.w hw) rfl ?_
  rintro e w5 ⟨_, rfl, rfl, hS5⟩; refine ⟨_, rfl, ?_⟩
  replace hS5 := hS5.join rfl; dsimp only [List.dropLast, List.cons_append, List.nil_append] at hS5; clear hC5
  clear hS4
  have hil2 := (itoa_len hw).1
  refine vc_e (.skip (by kernel_rfl) (.skip (by kernel_rfl) (.skip (by kernel_rfl) .nil))) ?_
  refine vc_p rfl rfl rfl (fun _ => (ev_concat rfl rfl (by first | omega | (simp; omega)))) ?_
  refine vc_p rfl rfl rfl (fun _ => (ev_assign rfl)) ?_
  refine VC.nil ?_
  refine qs_seq ?_
  refine wc_sub (L' := [(2, _)]) (.cons rfl .nil) ?_
  refine wc_ret ?_
  refine fin1 (.inr rfl) rfl rfl ?_
  exact ⟨_, rfl, rfl, hS5.pick [1] rfl⟩

theorem qput_sp {w : World} {F : Th} {p n : Nat} {W : WS} (hS : Sat w [refP p W n, F]) (hn : n ≤ 1000) (id : Bs) (hid : id.length ≤ 1000) (x : PipeD) (hd : x.d.length ≤ 64) (hr : inI x.r) (hw : inI x.w) :
    Calls Tryz.prog 55 #[ptrV p 0, strV id, .agg #[strV x.d, intV x.r, intV x.w]] w (Ret fun v w' => v = .tuple #[] ∧ Sat w' [refP p (setP W id x) (n + 1), F]) := by
  refine calls_enter Tryz.func55 rfl Tryz.ntmps55 rfl ?_
  refine wc_seq ?_
  refine wc_region ?_
  refine wl_box hS rfl rfl rfl ?_
  intro b1 w1 hS1
  refine wl_nil ?_
  refine qs_seq ?_
  refine wc_region ?_
  refine wl_move rfl rfl ?_
  refine wl_move rfl rfl ?_
  refine wl_concat rfl rfl (by first | omega | (simp; omega)) rfl ?_
  refine wl_loadA rfl ag_39 sz_39 (by first | exact hS1.blk 0 rfl) (by first | decide | exact Nat.le_of_ble_eq_true rfl | (simp; done) | omega) rfl rfl ?_
  have hC2 := hS1.split [] [false, false, false] rfl; dsimp only [selF, pickA, nthA, List.cons_append, List.nil_append] at hC2
  refine wl_call cal_70 rfl (qBytes_sp hC2 x hd hr hw) rfl ?_
  rintro e w2 ⟨_, rfl, rfl, hS2⟩; refine ⟨_, rfl, ?_⟩
  replace hS2 := hS2.join rfl; dsimp only [List.dropLast, List.cons_append, List.nil_append] at hS2; clear hC2
  clear hS1
  have hC3 := hS2.split [1] [false, true, false] rfl; dsimp only [selF, pickA, nthA, List.cons_append, List.nil_append] at hC3
  refine wl_call cal_9 rfl (qPut hC3 hn (kP id) (encP x)) rfl ?_
  rintro e w3 ⟨_, rfl, rfl, hS3⟩; refine ⟨_, rfl, ?_⟩
  replace hS3 := hS3.join rfl; dsimp only [List.dropLast, List.cons_append, List.nil_append] at hS3; clear hC3
  clear hS2
  refine wl_nil ?_
  refine fin0 (.inl rfl) rfl ?_
  exact ⟨_, rfl, rfl, hS3.pick [0, 2] rfl⟩

set_option maxRecDepth 100000 in
theorem qGetP_sp {w : World} {F : Th} {p n : Nat} {W : WS} (hS : Sat w [refP p W n, F]) (hn : n ≤ 1000) (id : Bs) (hid : id.length ≤ 1000) (hz : (W.cells (kP id)).length ≤ 1000000) :
    Calls Tryz.prog 13 #[ptrV p 0, strV id] w (Ret fun v w' => v = .tuple #[.agg #[strV (gD W id).d, intV (gD W id).r, intV (gD W id).w], .bool (gB W id)] ∧ Sat w' [refP p W n, F]) := by
  refine calls_enter Tryz.func13 rfl Tryz.ntmps13 rfl ?_
  refine wc_seq ?_
  refine wc_region ?_
  refine wl_alloc hS zr_39 rfl rfl ?_
  intro b1 w1 hS1
  refine wl_assign rfl rfl ?_
  refine wl_nil ?_
  refine qs_seq ?_
  refine wc_seq ?_
  refine wc_seq ?_
  refine wc_region ?_
  refine wl_move rfl rfl ?_
  refine wl_eqlS rfl rfl rfl ?_
  refine wl_nil ?_
  refine qs_seq ?_
  refine wc_condD rfl (fun h2 => ?_) (fun h2 => ?_)
  · skip
    refine wc_seq ?_
    refine wc_region ?_
    refine wl_buildS rfl pl_39_ asz_39 zr_39 rfl rfl ?_
    first | (refine wl_storeA hS1 rfl rfl sz_39 rfl (by first | rfl | (simp [allOne, Value.oneCell']; done) | assumption | exact hone) (i := 0) rfl (by first | decide | exact Nat.le_of_ble_eq_true rfl | (simp; done) | omega) ?_)
    intro w3 hS4; dsimp only [List.set] at hS4
    clear hS1
    refine wl_assign rfl rfl ?_
    refine wl_nil ?_
    refine qs_seq ?_
    refine wc_ret ?_
    refine qs_then_ret ?_
    refine finR2 (.inr rfl) rfl (resCA rfl ag_39 sz_39 (by first | exact hS4.blk 0 rfl) (by first | decide | exact Nat.le_of_ble_eq_true rfl | (simp; done) | omega) rfl) (resT rfl) ?_
    have hg : gP W id = none := by unfold gP; rw [if_pos (by assumption)]
    exact ⟨_, rfl, by unfold gD gB; rw [hg]; rfl, hS4.pick [1, 2] rfl⟩
  · skip
    refine wc_skip ?_
    refine qs_seq ?_
    refine wc_seq ?_
    refine wc_region ?_
    refine wl_move rfl rfl ?_
    refine wl_move rfl rfl ?_
    refine wl_concat rfl rfl (by first | omega | (simp; omega)) rfl ?_
    have hC5 := hS1.split [1] [false, true, false] rfl; dsimp only [selF, pickA, nthA, List.cons_append, List.nil_append] at hC5
    refine wl_call cal_15 rfl (qGet hC5 hn (kP id)) rfl ?_
    rintro e w5 ⟨_, rfl, rfl, hS5⟩; refine ⟨_, rfl, ?_⟩
    replace hS5 := hS5.join rfl; dsimp only [List.dropLast, List.cons_append, List.nil_append] at hS5; clear hC5
    clear hS1
    have hC6 := hS5.split [] [false, false, false] rfl; dsimp only [selF, pickA, nthA, List.cons_append, List.nil_append] at hC6
    refine wl_call cal_39 rfl (r1Open_sp hC6 (W.cells (kP id))) rfl ?_
    rintro e w6 ⟨_, rfl, rb, rfl, hS6⟩; refine ⟨_, rfl, ?_⟩
    replace hS6 := hS6.join rfl; dsimp only [List.dropLast, List.cons_append, List.nil_append] at hS6; clear hC6
    clear hS5
    refine wl_assign rfl rfl ?_
    refine wl_nil ?_
    refine qs_seq ?_
    refine wc_sub (L' := [(6, _), (5, _), (4, _)]) (.cons rfl (.cons rfl (.cons rfl .nil))) ?_
    refine wc_seq ?_
    refine wc_region ?_
    refine wl_move rfl rfl ?_
    have hC7 := hS6.split [0] [true, false, false, false] rfl; dsimp only [selF, pickA, nthA, List.cons_append, List.nil_append] at hC7
    refine wl_call cal_40 rfl (r1RText_sp hC7 (fun q => by cases q) hz) rfl ?_
    rintro e w7 ⟨_, rfl, rfl, hS7⟩; refine ⟨_, rfl, ?_⟩
    replace hS7 := hS7.join rfl; dsimp only [List.dropLast, List.cons_append, List.nil_append] at hS7; clear hC7
    clear hS6
    have htl := txtR_len (W.cells (kP id), false)
    dsimp only at htl
    have hn2 := numR_len 59 (-9223372036854775808) (txtR (W.cells (kP id), false))
    refine wl_buildS rfl pl_39_0 asz_39 zr_39 rfl rfl ?_
    refine wl_alloc hS7 zr_39 rfl rfl ?_
    intro b8 w8 hS8
    clear hS7
    first | (refine wl_storeA hS8 rfl rfl sz_39 rfl (by first | rfl | (simp [allOne, Value.oneCell']; done) | assumption | exact hone) (i := 0) rfl (by first | decide | exact Nat.le_of_ble_eq_true rfl | (simp; done) | omega) ?_) | (refine wl_storeA hS8 rfl rfl sz_39 rfl (by first | rfl | (simp [allOne, Value.oneCell']; done) | assumption | exact hone) (i := 3) rfl (by first | decide | exact Nat.le_of_ble_eq_true rfl | (simp; done) | omega) ?_)
    intro w9 hS10; dsimp only [List.set] at hS10
    clear hS8
    refine wl_nil ?_
    refine qs_seq ?_
    refine wc_seq ?_
    refine wc_region ?_
    refine wl_move rfl rfl ?_
    have hC11 := hS10.split [1] [false, true, false, false, false] rfl; dsimp only [selF, pickA, nthA, List.cons_append, List.nil_append] at hC11
    refine wl_call cal_41 rfl (r1RInt_sp hC11 (by omega)) rfl ?_
    rintro e w11 ⟨_, rfl, rfl, hS11⟩; refine ⟨_, rfl, ?_⟩
    replace hS11 := hS11.join rfl; dsimp only [List.dropLast, List.cons_append, List.nil_append] at hS11; clear hC11
    clear hS10
    refine wl_fieldAddr rfl fo_39_1 rfl ?_
    first | (refine wl_store hS11 rfl rfl sz_3 (by first | rfl | assumption) (i := 1) rfl (by first | decide | exact Nat.le_of_ble_eq_true rfl | (simp; done) | omega) ?_) | (refine wl_store hS11 rfl rfl sz_3 (by first | rfl | assumption) (i := 3) rfl (by first | decide | exact Nat.le_of_ble_eq_true rfl | (simp; done) | omega) ?_)
    intro w12 hS13; dsimp only [List.set] at hS13
    clear hS11
    refine wl_nil ?_
    refine qs_seq ?_
    refine wc_seq ?_
    refine wc_region ?_
    refine wl_move rfl rfl ?_
    have hC14 := hS13.split [0] [true, false, false, false, false] rfl; dsimp only [selF, pickA, nthA, List.cons_append, List.nil_append] at hC14
    refine wl_call cal_41 rfl (r1RInt_sp hC14 (by omega)) rfl ?_
    rintro e w14 ⟨_, rfl, rfl, hS14⟩; refine ⟨_, rfl, ?_⟩
    replace hS14 := hS14.join rfl; dsimp only [List.dropLast, List.cons_append, List.nil_append] at hS14; clear hC14
    clear hS13
    refine wl_fieldAddr rfl fo_39_2 rfl ?_
    first | (refine wl_store hS14 rfl rfl sz_3 (by first | rfl | assumption) (i := 1) rfl (by first | decide | exact Nat.le_of_ble_eq_true rfl | (simp; done) | omega) ?_) | (refine wl_store hS14 rfl rfl sz_3 (by first | rfl | assumption) (i := 3) rfl (by first | decide | exact Nat.le_of_ble_eq_true rfl | (simp; done) | omega) ?_)
    intro w15 hS16; dsimp only [List.set] at hS16
    clear hS14
    refine wl_nil ?_
    refine qs_seq ?_
    refine wc_sub (L' := [(7, _), (6, _), (5, _), (4, _)]) (.cons rfl (.cons rfl (.cons rfl (.cons rfl .nil)))) ?_
    refine wc_seq ?_
    refine wc_seq ?_
    refine wc_region ?_
    refine wl_move rfl rfl ?_
    have hC17 := hS16.split [0] [true, false, false, false, false] rfl; dsimp only [selF, pickA, nthA, List.cons_append, List.nil_append] at hC17
    refine wl_call cal_42 rfl (r1Done_sp hC17) rfl ?_
    rintro e w17 ⟨_, rfl, rfl, hS17⟩; refine ⟨_, rfl, ?_⟩
    replace hS17 := hS17.join rfl; dsimp only [List.dropLast, List.cons_append, List.nil_append] at hS17; clear hC17
    clear hS16
    refine wl_not rfl rfl ?_
    refine wl_move rfl rfl ?_
    refine wl_split 28 rfl (fun h18 => ?_) (fun h18 => ?_)
    · skip
      refine wl_unwanted rfl rfl h18 rfl ?_
      refine wl_unwanted rfl rfl h18 rfl ?_
      refine wl_unwanted rfl rfl h18 rfl ?_
      refine wl_unwanted rfl rfl h18 rfl ?_
      refine wl_pickT rfl h18 rfl rfl ?_
      refine wl_move rfl rfl ?_
      refine wl_unwanted rfl rfl rfl rfl ?_
      refine wl_unwanted rfl rfl rfl rfl ?_
      refine wl_unwanted rfl rfl rfl rfl ?_
      refine wl_pickT rfl rfl rfl rfl ?_
      refine wl_move rfl rfl ?_
      refine wl_unwanted rfl rfl rfl rfl ?_
      refine wl_unwanted rfl rfl rfl rfl ?_
      refine wl_unwanted rfl rfl rfl rfl ?_
      refine wl_pickT rfl rfl rfl rfl ?_
      refine wl_nil ?_
      refine qs_seq ?_
      refine wc_sub (L' := [(43, _), (7, _), (5, _), (4, _)]) (.cons rfl (.cons rfl (.cons rfl (.cons rfl .nil)))) ?_
      refine wc_condT rfl ?_
      refine wc_seq ?_
      refine wc_region ?_
      refine wl_buildS rfl pl_39_ asz_39 zr_39 rfl rfl ?_
      first | (refine wl_storeA hS17 rfl rfl sz_39 rfl (by first | rfl | (simp [allOne, Value.oneCell']; done) | assumption | exact hone) (i := 1) rfl (by first | decide | exact Nat.le_of_ble_eq_true rfl | (simp; done) | omega) ?_) | (refine wl_storeA hS17 rfl rfl sz_39 rfl (by first | rfl | (simp [allOne, Value.oneCell']; done) | assumption | exact hone) (i := 3) rfl (by first | decide | exact Nat.le_of_ble_eq_true rfl | (simp; done) | omega) ?_)
      intro w19 hS20; dsimp only [List.set] at hS20
      clear hS17
      refine wl_assign rfl rfl ?_
      refine wl_nil ?_
      refine qs_seq ?_
      refine wc_ret ?_
      refine qs_then_ret ?_
      refine finR2 (.inr rfl) rfl (resCA rfl ag_39 sz_39 (by first | exact hS20.blk 1 rfl | exact hS20.blk 3 rfl) (by first | decide | exact Nat.le_of_ble_eq_true rfl | (simp; done) | omega) rfl) (resT rfl) ?_
      have hg : gP W id = none := by unfold gP getP imin; rw [if_neg (by assumption)]; dsimp only; rw [if_neg (by rintro ⟨q1, q2, q3, q4, q5⟩; first | omega | exact done_no (by assumption) ⟨q1, q2⟩)]
      exact ⟨_, rfl, by unfold gD gB; rw [hg]; rfl, hS20.pick [2, 4] rfl⟩
    · skip
      refine wl_guard rfl rfl h18 ?_
      refine wl_fieldAddr rfl fo_39_0 rfl ?_
      refine wl_guard rfl rfl h18 ?_
      refine wl_load rfl ag_9 (by first | assumption | exact hS17.cell 1 rfl rfl | exact hS17.cell 3 rfl rfl) rfl ?_
      refine wl_guard rfl rfl h18 ?_
      refine wl_lenS Tryz.underlying9 rfl rfl ?_
      refine wl_guard rfl rfl h18 ?_
      refine wl_gtr rfl rfl rfl ?_
      refine wl_pickF rfl h18 rfl rfl ?_
      refine wl_move rfl rfl ?_
      refine wl_splitD 34 rfl (fun h21 => ?_) (fun h21 => ?_)
      · skip
        refine wl_unwanted rfl rfl (decide_eq_true h21) rfl ?_
        refine wl_unwanted rfl rfl (decide_eq_true h21) rfl ?_
        refine wl_unwanted rfl rfl (decide_eq_true h21) rfl ?_
        refine wl_pickT rfl (decide_eq_true h21) rfl rfl ?_
        refine wl_move rfl rfl ?_
        refine wl_unwanted rfl rfl rfl rfl ?_
        refine wl_unwanted rfl rfl rfl rfl ?_
        refine wl_unwanted rfl rfl rfl rfl ?_
        refine wl_pickT rfl rfl rfl rfl ?_
        refine wl_nil ?_
        refine qs_seq ?_
        refine wc_sub (L' := [(43, _), (7, _), (5, _), (4, _)]) (.cons rfl (.cons rfl (.cons rfl (.cons rfl .nil)))) ?_
        refine wc_condT rfl ?_
        refine wc_seq ?_
        refine wc_region ?_
        refine wl_buildS rfl pl_39_ asz_39 zr_39 rfl rfl ?_
        first | (refine wl_storeA hS17 rfl rfl sz_39 rfl (by first | rfl | (simp [allOne, Value.oneCell']; done) | assumption | exact hone) (i := 1) rfl (by first | decide | exact Nat.le_of_ble_eq_true rfl | (simp; done) | omega) ?_) | (refine wl_storeA hS17 rfl rfl sz_39 rfl (by first | rfl | (simp [allOne, Value.oneCell']; done) | assumption | exact hone) (i := 3) rfl (by first | decide | exact Nat.le_of_ble_eq_true rfl | (simp; done) | omega) ?_)
        intro w22 hS23; dsimp only [List.set] at hS23
        clear hS17
        refine wl_assign rfl rfl ?_
        refine wl_nil ?_
        refine qs_seq ?_
        refine wc_ret ?_
        refine qs_then_ret ?_
        refine finR2 (.inr rfl) rfl (resCA rfl ag_39 sz_39 (by first | exact hS23.blk 1 rfl | exact hS23.blk 3 rfl) (by first | decide | exact Nat.le_of_ble_eq_true rfl | (simp; done) | omega) rfl) (resT rfl) ?_
        have hg : gP W id = none := by unfold gP getP imin; rw [if_neg (by assumption)]; dsimp only; rw [if_neg (by rintro ⟨q1, q2, q3, q4, q5⟩; first | omega | exact done_no (by assumption) ⟨q1, q2⟩)]
        exact ⟨_, rfl, by unfold gD gB; rw [hg]; rfl, hS23.pick [2, 4] rfl⟩
      · skip
        refine wl_guard rfl rfl (decide_eq_false h21) ?_
        refine wl_fieldAddr rfl fo_39_1 rfl ?_
        refine wl_guard rfl rfl (decide_eq_false h21) ?_
        refine wl_load rfl ag_3 (by first | assumption | exact hS17.cell 1 rfl rfl | exact hS17.cell 3 rfl rfl) rfl ?_
        refine wl_guard rfl rfl (decide_eq_false h21) ?_
        refine wl_lss rfl rfl rfl ?_
        refine wl_pickF rfl (decide_eq_false h21) rfl rfl ?_
        refine wl_move rfl rfl ?_
        refine wl_splitD 39 rfl (fun h24 => ?_) (fun h24 => ?_)
        · skip
          refine wl_unwanted rfl rfl (decide_eq_true h24) rfl ?_
          refine wl_unwanted rfl rfl (decide_eq_true h24) rfl ?_
          refine wl_unwanted rfl rfl (decide_eq_true h24) rfl ?_
          refine wl_pickT rfl (decide_eq_true h24) rfl rfl ?_
          refine wl_nil ?_
          refine qs_seq ?_
          refine wc_sub (L' := [(43, _), (7, _), (5, _), (4, _)]) (.cons rfl (.cons rfl (.cons rfl (.cons rfl .nil)))) ?_
          refine wc_condT rfl ?_
          refine wc_seq ?_
          refine wc_region ?_
          refine wl_buildS rfl pl_39_ asz_39 zr_39 rfl rfl ?_
          first | (refine wl_storeA hS17 rfl rfl sz_39 rfl (by first | rfl | (simp [allOne, Value.oneCell']; done) | assumption | exact hone) (i := 1) rfl (by first | decide | exact Nat.le_of_ble_eq_true rfl | (simp; done) | omega) ?_) | (refine wl_storeA hS17 rfl rfl sz_39 rfl (by first | rfl | (simp [allOne, Value.oneCell']; done) | assumption | exact hone) (i := 3) rfl (by first | decide | exact Nat.le_of_ble_eq_true rfl | (simp; done) | omega) ?_)
          intro w25 hS26; dsimp only [List.set] at hS26
          clear hS17
          refine wl_assign rfl rfl ?_
          refine wl_nil ?_
          refine qs_seq ?_
          refine wc_ret ?_
          refine qs_then_ret ?_
          refine finR2 (.inr rfl) rfl (resCA rfl ag_39 sz_39 (by first | exact hS26.blk 1 rfl | exact hS26.blk 3 rfl) (by first | decide | exact Nat.le_of_ble_eq_true rfl | (simp; done) | omega) rfl) (resT rfl) ?_
          have hg : gP W id = none := by unfold gP getP imin; rw [if_neg (by assumption)]; dsimp only; rw [if_neg (by rintro ⟨q1, q2, q3, q4, q5⟩; first | omega | exact done_no (by assumption) ⟨q1, q2⟩)]
          exact ⟨_, rfl, by unfold gD gB; rw [hg]; rfl, hS26.pick [2, 4] rfl⟩
        · skip
          refine wl_guard rfl rfl (decide_eq_false h24) ?_
          refine wl_fieldAddr rfl fo_39_2 rfl ?_
          refine wl_guard rfl rfl (decide_eq_false h24) ?_
          refine wl_load rfl ag_3 (by first | assumption | exact hS17.cell 1 rfl rfl | exact hS17.cell 3 rfl rfl) rfl ?_
          refine wl_guard rfl rfl (decide_eq_false h24) ?_
          refine wl_lss rfl rfl rfl ?_
          refine wl_pickF rfl (decide_eq_false h24) rfl rfl ?_
          refine wl_nil ?_
          refine qs_seq ?_
          refine wc_sub (L' := [(43, _), (7, _), (5, _), (4, _)]) (.cons rfl (.cons rfl (.cons rfl (.cons rfl .nil)))) ?_
          refine wc_condD rfl (fun h27 => ?_) (fun h27 => ?_)
          · skip
            refine wc_seq ?_
            refine wc_region ?_
            refine wl_buildS rfl pl_39_ asz_39 zr_39 rfl rfl ?_
            first | (refine wl_storeA hS17 rfl rfl sz_39 rfl (by first | rfl | (simp [allOne, Value.oneCell']; done) | assumption | exact hone) (i := 1) rfl (by first | decide | exact Nat.le_of_ble_eq_true rfl | (simp; done) | omega) ?_) | (refine wl_storeA hS17 rfl rfl sz_39 rfl (by first | rfl | (simp [allOne, Value.oneCell']; done) | assumption | exact hone) (i := 3) rfl (by first | decide | exact Nat.le_of_ble_eq_true rfl | (simp; done) | omega) ?_)
            intro w28 hS29; dsimp only [List.set] at hS29
            clear hS17
            refine wl_assign rfl rfl ?_
            refine wl_nil ?_
            refine qs_seq ?_
            refine wc_ret ?_
            refine qs_then_ret ?_
            refine finR2 (.inr rfl) rfl (resCA rfl ag_39 sz_39 (by first | exact hS29.blk 1 rfl | exact hS29.blk 3 rfl) (by first | decide | exact Nat.le_of_ble_eq_true rfl | (simp; done) | omega) rfl) (resT rfl) ?_
            have hg : gP W id = none := by unfold gP getP imin; rw [if_neg (by assumption)]; dsimp only; rw [if_neg (by rintro ⟨q1, q2, q3, q4, q5⟩; first | omega | exact done_no (by assumption) ⟨q1, q2⟩)]
            exact ⟨_, rfl, by unfold gD gB; rw [hg]; rfl, hS29.pick [2, 4] rfl⟩
          · skip
            refine wc_skip ?_
            refine qs_seq ?_
            refine wc_seq ?_
            refine wc_region ?_
            refine wl_loadA rfl ag_39 sz_39 (by first | exact hS17.blk 1 rfl | exact hS17.blk 3 rfl) (by first | decide | exact Nat.le_of_ble_eq_true rfl | (simp; done) | omega) rfl rfl ?_
            first | (refine wl_storeA hS17 rfl rfl sz_39 rfl (by first | rfl | (simp [allOne, Value.oneCell']; done) | assumption | exact hone) (i := 1) rfl (by first | decide | exact Nat.le_of_ble_eq_true rfl | (simp; done) | omega) ?_) | (refine wl_storeA hS17 rfl rfl sz_39 rfl (by first | rfl | (simp [allOne, Value.oneCell']; done) | assumption | exact hone) (i := 3) rfl (by first | decide | exact Nat.le_of_ble_eq_true rfl | (simp; done) | omega) ?_)
            intro w30 hS31; dsimp only [List.set] at hS31
            clear hS17
            refine wl_assign rfl rfl ?_
            refine wl_nil ?_
            refine qs_seq ?_
            refine wc_ret ?_
            refine finR2 (.inr rfl) rfl (resCA rfl ag_39 sz_39 (by first | exact hS31.blk 1 rfl | exact hS31.blk 3 rfl) (by first | decide | exact Nat.le_of_ble_eq_true rfl | (simp; done) | omega) rfl) (resT rfl) ?_
            have hdn := done_yes (by assumption)
            have hg : gP W id = some ⟨txtV (W.cells (kP id), false), numV 59 imin (txtR (W.cells (kP id), false)), numV 59 imin (numR 59 imin (txtR (W.cells (kP id), false)))⟩ := by unfold gP getP imin; rw [if_neg (by assumption)]; dsimp only; rw [if_pos ⟨hdn.1, hdn.2, by omega, by omega, by omega⟩]
            exact ⟨_, rfl, by unfold gD gB; rw [hg]; rfl, hS31.pick [2, 4] rfl⟩

set_option maxRecDepth 100000 in
theorem qMake_sp {w : World} {F : Th} {p n : Nat} {W : WS} (hS : Sat w [refP p W n, F]) (hn : n ≤ 1000) (hP : PI W n) (id : Bs) (hid : id.length ≤ 200) :
    Calls Tryz.prog 29 #[ptrV p 0, strV id] w (Ret fun v w' => v = intV (mkE W id (keyN W)) ∧ Sat w' [refP p (mkP W id (keyN W)) (n + 1), F]) := by
  refine calls_enter Tryz.func29 rfl Tryz.ntmps29 rfl ?_
  refine wc_seq ?_
  refine wc_region ?_
  refine wl_assign rfl rfl ?_
  refine wl_nil ?_
  refine qs_seq ?_
  refine wc_seq ?_
  refine wc_seq ?_
  refine wc_region ?_
  refine wl_move rfl rfl ?_
  refine wl_eqlS rfl rfl rfl ?_
  refine wl_nil ?_
  refine qs_seq ?_
  refine wc_condD rfl (fun h1 => ?_) (fun h1 => ?_)
  · skip
    refine wc_seq ?_
    refine wc_region ?_
    refine wl_assign rfl rfl ?_
    refine wl_nil ?_
    refine qs_seq ?_
    refine wc_ret ?_
    refine qs_then_ret ?_
    refine fin1 (.inr rfl) rfl rfl ?_
    have hme : mkE W id (keyN W) = 1 := by unfold mkE; rw [if_pos (by assumption)]
    exact ⟨_, rfl, by rw [hme], by unfold mkP; rw [hme, if_neg (by decide)]; exact refP_up (by omega) (hS.pick [0, 1] rfl)⟩
  · skip
    refine wc_skip ?_
    refine qs_seq ?_
    refine wc_seq ?_
    refine wc_region ?_
    refine wl_move rfl rfl ?_
    refine wl_move rfl rfl ?_
    have hC2 := hS.split [0] [true, false] rfl; dsimp only [selF, pickA, nthA, List.cons_append, List.nil_append] at hC2
    refine wl_call cal_13 rfl (qGetP_sp hC2 hn id (by omega) (hP.len _)) rfl ?_
    rintro e w2 ⟨_, rfl, rfl, hS2⟩; refine ⟨_, rfl, ?_⟩
    replace hS2 := hS2.join rfl; dsimp only [List.dropLast, List.cons_append, List.nil_append] at hS2; clear hC2
    refine wl_move rfl rfl ?_
    refine wl_extract rfl rfl rfl ?_
    refine wl_extract rfl rfl rfl ?_
    refine wl_alloc hS2 zr_39 rfl rfl ?_
    intro b3 w3 hS3
    clear hS2
    first | (refine wl_storeA hS3 rfl rfl sz_39 rfl (by first | rfl | (simp [allOne, Value.oneCell']; done) | assumption | exact hone) (i := 0) rfl (by first | decide | exact Nat.le_of_ble_eq_true rfl | (simp; done) | omega) ?_)
    intro w4 hS5; dsimp only [List.set] at hS5
    clear hS3
    refine wl_assign rfl rfl ?_
    refine wl_nil ?_
    refine qs_seq ?_
    refine wc_sub (L' := [(6, _), (4, _), (0, _), (1, _)]) (.cons rfl (.cons rfl (.cons rfl (.cons rfl .nil)))) ?_
    refine wc_seq ?_
    refine wc_seq ?_
    refine wc_region ?_
    refine wl_move rfl rfl ?_
    refine wl_nil ?_
    refine qs_seq ?_
    refine wc_cond rfl (fun h6 => ?_) (fun h6 => ?_)
    · skip
      obtain ⟨x, hx, hxd⟩ := gB_some (W := W) (id := id) (by simpa using h6)
      rw [hxd] at hS5
      have ho := gP_ok hx
      have hod := ho.d
      have hor := ho.r
      have how := ho.w
      refine wc_seq ?_
      refine wc_region ?_
      refine wl_assign rfl rfl ?_
      refine wl_nil ?_
      refine qs_seq ?_
      refine wc_ret ?_
      refine qs_then_ret ?_
      refine fin1 (.inr rfl) rfl rfl ?_
      have hme : mkE W id (keyN W) = 5 := by unfold mkE; rw [if_neg (by assumption), hx]
      exact ⟨_, rfl, by rw [hme], by unfold mkP; rw [hme, if_neg (by decide)]; exact refP_up (by omega) (hS5.pick [1, 2] rfl)⟩
    · skip
      have hx := gB_none (W := W) (id := id) (by simpa using h6)
      refine wc_skip ?_
      refine qs_seq ?_
      refine wc_seq ?_
      refine wc_seq ?_
      refine wc_region ?_
      refine wl_move rfl rfl ?_
      have hC7 := hS5.split [1] [false, true, false] rfl; dsimp only [selF, pickA, nthA, List.cons_append, List.nil_append] at hC7
      refine wl_call cal_18 rfl (qWith hC7 hn [112, 47]) rfl ?_
      rintro e w7 ⟨_, rfl, lk, hlc, hlu, hll, hS7⟩; refine ⟨_, rfl, ?_⟩
      replace hS7 := hS7.join rfl; dsimp only [List.dropLast, List.cons_append, List.nil_append] at hS7; clear hC7
      clear hS5
      have hkn := keyN_eq hlc
      refine wl_lenO 0 hS7 Tryz.underlying28 rfl rfl rfl ?_
      refine wl_geq rfl rfl rfl ?_
      refine wl_nil ?_
      refine qs_seq ?_
      refine wc_condD rfl (fun h8 => ?_) (fun h8 => ?_)
      · skip
        refine wc_seq ?_
        refine wc_region ?_
        refine wl_assign rfl rfl ?_
        refine wl_nil ?_
        refine qs_seq ?_
        refine wc_ret ?_
        refine qs_then_ret ?_
        refine fin1 (.inr rfl) rfl rfl ?_
        have hme : mkE W id (keyN W) = 6 := by unfold mkE; rw [if_neg (by assumption), hx, hkn]; dsimp only; rw [if_pos (by omega)]
        exact ⟨_, rfl, by rw [hme], by unfold mkP; rw [hme, if_neg (by decide)]; exact refP_up (by omega) (hS7.pick [1, 3] rfl)⟩
      · skip
        refine wc_skip ?_
        refine qs_seq ?_
        refine wc_seq ?_
        refine wc_region ?_
        refine wl_move rfl rfl ?_
        refine wl_move rfl rfl ?_
        refine wl_buildS rfl pl_39_ asz_39 zr_39 rfl rfl ?_
        have hC9 := hS7.split [1] [false, true, false, false] rfl; dsimp only [selF, pickA, nthA, List.cons_append, List.nil_append] at hC9
        refine wl_call cal_55 rfl (qput_sp hC9 hn id (by omega) zeroP (by simp [zeroP]) (by unfold inI; simp [zeroP]) (by unfold inI; simp [zeroP])) rfl ?_
        rintro e w9 ⟨_, rfl, rfl, hS9⟩; refine ⟨_, rfl, ?_⟩
        replace hS9 := hS9.join rfl; dsimp only [List.dropLast, List.cons_append, List.nil_append] at hS9; clear hC9
        clear hS7
        refine wl_nil ?_
        refine qs_seq ?_
        refine wc_sub (L' := [(4, _)]) (.cons rfl .nil) ?_
        refine wc_seq ?_
        refine wc_region ?_
        refine wl_assign rfl rfl ?_
        refine wl_nil ?_
        refine qs_seq ?_
        refine wc_ret ?_
        refine fin1 (.inr rfl) rfl rfl ?_
        have hme : mkE W id (keyN W) = 0 := by unfold mkE; rw [if_neg (by assumption), hx, hkn]; dsimp only; rw [if_neg (by omega)]
        exact ⟨_, rfl, by rw [hme], by unfold mkP; rw [hme, if_pos rfl]; exact refP_up (by omega) (hS9.pick [0, 3] rfl)⟩

set_option maxRecDepth 100000 in
theorem qOpen_sp {w : World} {F : Th} {p n : Nat} {W : WS} (hS : Sat w [refP p W n, F]) (hn : n ≤ 1000) (hP : PI W n) (id : Bs) (hid : id.length ≤ 200) (wr : Bool) :
    Calls Tryz.prog 30 #[ptrV p 0, strV id, .bool wr] w (Ret fun v w' => v = intV (openE W id) ∧ Sat w' [refP p (openP W id wr) (n + 1), F]) := by
  refine calls_enter Tryz.func30 rfl Tryz.ntmps30 rfl ?_
  refine wc_seq ?_
  refine wc_region ?_
  refine wl_assign rfl rfl ?_
  refine wl_nil ?_
  refine qs_seq ?_
  refine wc_seq ?_
  refine wc_region ?_
  refine wl_move rfl rfl ?_
  refine wl_move rfl rfl ?_
  have hC1 := hS.split [0] [true, false] rfl; dsimp only [selF, pickA, nthA, List.cons_append, List.nil_append] at hC1
  refine wl_call cal_13 rfl (qGetP_sp hC1 hn id (by omega) (hP.len _)) rfl ?_
  rintro e w1 ⟨_, rfl, rfl, hS1⟩; refine ⟨_, rfl, ?_⟩
  replace hS1 := hS1.join rfl; dsimp only [List.dropLast, List.cons_append, List.nil_append] at hS1; clear hC1
  refine wl_move rfl rfl ?_
  refine wl_extract rfl rfl rfl ?_
  refine wl_extract rfl rfl rfl ?_
  refine wl_alloc hS1 zr_39 rfl rfl ?_
  intro b2 w2 hS2
  clear hS1
  first | (refine wl_storeA hS2 rfl rfl sz_39 rfl (by first | rfl | (simp [allOne, Value.oneCell']; done) | assumption | exact hone) (i := 0) rfl (by first | decide | exact Nat.le_of_ble_eq_true rfl | (simp; done) | omega) ?_)
  intro w3 hS4; dsimp only [List.set] at hS4
  clear hS2
  refine wl_assign rfl rfl ?_
  refine wl_nil ?_
  refine qs_seq ?_
  refine wc_sub (L' := [(8, _), (7, _), (6, _), (0, _), (1, _), (2, _)]) (.cons rfl (.cons rfl (.cons rfl (.cons rfl (.cons rfl (.cons rfl .nil)))))) ?_
  refine wc_seq ?_
  refine wc_seq ?_
  refine wc_region ?_
  refine wl_move rfl rfl ?_
  refine wl_not rfl rfl ?_
  refine wl_nil ?_
  refine qs_seq ?_
  refine wc_cond rfl (fun h5 => ?_) (fun h5 => ?_)
  · skip
    have hx := gB_none (W := W) (id := id) (by simpa using h5)
    refine wc_seq ?_
    refine wc_region ?_
    refine wl_assign rfl rfl ?_
    refine wl_nil ?_
    refine qs_seq ?_
    refine wc_ret ?_
    refine qs_then_ret ?_
    refine fin1 (.inr rfl) rfl rfl ?_
    exact ⟨_, rfl, by unfold openE; rw [hx], by unfold openP; rw [hx]; exact refP_up (by omega) (hS4.pick [1, 2] rfl)⟩
  · skip
    obtain ⟨x, hx, hxd⟩ := gB_some (W := W) (id := id) (by simpa using h5)
    rw [hxd] at hS4
    have ho := gP_ok hx
    have hod := ho.d
    have hor := ho.r
    have how := ho.w
    refine wc_skip ?_
    refine qs_seq ?_
    refine wc_seq ?_
    refine wc_seq ?_
    refine wc_region ?_
    refine wl_move rfl rfl ?_
    refine wl_nil ?_
    refine qs_seq ?_
    refine wc_cond rfl (fun h6 => ?_) (fun h6 => ?_)
    · skip
      obtain rfl : wr = true := h6
      have hyi := addE_in ho true 1
      refine wc_region ?_
      refine wl_fieldAddr rfl fo_39_2 rfl ?_
      refine wl_load rfl ag_3 (by first | assumption | exact hS4.cell 0 rfl rfl) rfl ?_
      refine wl_addW rfl rfl rfl rfl ?_
      refine wl_fieldAddr rfl fo_39_2 rfl ?_
      first | (refine wl_store hS4 rfl rfl sz_3 (by first | rfl | assumption) (i := 0) rfl (by first | decide | exact Nat.le_of_ble_eq_true rfl | (simp; done) | omega) ?_)
      intro w7 hS8; dsimp only [List.set] at hS8
      clear hS4
      refine wl_nil ?_
      refine qs_seq ?_
      refine wc_sub (L' := [(7, _), (6, _), (0, _), (1, _)]) (.cons rfl (.cons rfl (.cons rfl (.cons rfl .nil)))) ?_
      refine wc_seq ?_
      refine wc_region ?_
      refine wl_move rfl rfl ?_
      refine wl_move rfl rfl ?_
      refine wl_loadA rfl ag_39 sz_39 (by first | exact hS8.blk 0 rfl) (by first | decide | exact Nat.le_of_ble_eq_true rfl | (simp; done) | omega) rfl rfl ?_
      have hC9 := hS8.split [1] [false, true, false] rfl; dsimp only [selF, pickA, nthA, List.cons_append, List.nil_append] at hC9
      refine wl_call cal_55 rfl (qput_sp hC9 hn id (by omega) (addE x true 1) hyi.1 hyi.2.1 hyi.2.2) rfl ?_
      rintro e w9 ⟨_, rfl, rfl, hS9⟩; refine ⟨_, rfl, ?_⟩
      replace hS9 := hS9.join rfl; dsimp only [List.dropLast, List.cons_append, List.nil_append] at hS9; clear hC9
      clear hS8
      refine wl_nil ?_
      refine qs_seq ?_
      refine wc_seq ?_
      refine wc_region ?_
      refine wl_assign rfl rfl ?_
      refine wl_nil ?_
      refine qs_seq ?_
      refine wc_ret ?_
      refine fin1 (.inr rfl) rfl rfl ?_
      exact ⟨_, rfl, by unfold openE; rw [hx], by unfold openP; rw [hx]; exact refP_up (by omega) (hS9.pick [0, 2] rfl)⟩
    · skip
      obtain rfl : wr = false := h6
      have hyi := addE_in ho false 1
      refine wc_region ?_
      refine wl_fieldAddr rfl fo_39_1 rfl ?_
      refine wl_load rfl ag_3 (by first | assumption | exact hS4.cell 0 rfl rfl) rfl ?_
      refine wl_addW rfl rfl rfl rfl ?_
      refine wl_fieldAddr rfl fo_39_1 rfl ?_
      first | (refine wl_store hS4 rfl rfl sz_3 (by first | rfl | assumption) (i := 0) rfl (by first | decide | exact Nat.le_of_ble_eq_true rfl | (simp; done) | omega) ?_)
      intro w10 hS11; dsimp only [List.set] at hS11
      clear hS4
      refine wl_nil ?_
      refine qs_seq ?_
      refine wc_sub (L' := [(7, _), (6, _), (0, _), (1, _)]) (.cons rfl (.cons rfl (.cons rfl (.cons rfl .nil)))) ?_
      refine wc_seq ?_
      refine wc_region ?_
      refine wl_move rfl rfl ?_
      refine wl_move rfl rfl ?_
      refine wl_loadA rfl ag_39 sz_39 (by first | exact hS11.blk 0 rfl) (by first | decide | exact Nat.le_of_ble_eq_true rfl | (simp; done) | omega) rfl rfl ?_
      have hC12 := hS11.split [1] [false, true, false] rfl; dsimp only [selF, pickA, nthA, List.cons_append, List.nil_append] at hC12
      refine wl_call cal_55 rfl (qput_sp hC12 hn id (by omega) (addE x false 1) hyi.1 hyi.2.1 hyi.2.2) rfl ?_
      rintro e w12 ⟨_, rfl, rfl, hS12⟩; refine ⟨_, rfl, ?_⟩
      replace hS12 := hS12.join rfl; dsimp only [List.dropLast, List.cons_append, List.nil_append] at hS12; clear hC12
      clear hS11
      refine wl_nil ?_
      refine qs_seq ?_
      refine wc_seq ?_
      refine wc_region ?_
      refine wl_assign rfl rfl ?_
      refine wl_nil ?_
      refine qs_seq ?_
      refine wc_ret ?_
      refine fin1 (.inr rfl) rfl rfl ?_
      exact ⟨_, rfl, by unfold openE; rw [hx], by unfold openP; rw [hx]; exact refP_up (by omega) (hS12.pick [0, 2] rfl)⟩

theorem addE_dec {x : PipeD} (h : OkP x) (wr : Bool) : addE x wr (-1) = decE x wr := by
  have h1 := h.r
  have h2 := h.w
  rw [addE_val (by omega) (by omega)]
  unfold decE
  cases wr <;> rfl
theorem decE_in {x : PipeD} (h : OkP x) (wr : Bool) : (decE x wr).d.length ≤ 64 ∧ inI (decE x wr).r ∧ inI (decE x wr).w := by
  rw [← addE_dec h wr]; exact addE_in h wr (-1)
set_option maxRecDepth 100000 in
theorem qClose_sp {w : World} {F : Th} {p n : Nat} {W : WS} (hS : Sat w [refP p W n, F]) (hn : n ≤ 1000) (hP : PI W n) (id : Bs) (hid : id.length ≤ 200) (wr : Bool) :
    Calls Tryz.prog 31 #[ptrV p 0, strV id, .bool wr] w (Ret fun v w' => v = intV (closeE W id wr) ∧ Sat w' [refP p (closeP W id wr) (n + 1), F]) := by
  refine calls_enter Tryz.func31 rfl Tryz.ntmps31 rfl ?_
  refine wc_seq ?_
  refine wc_region ?_
  refine wl_assign rfl rfl ?_
  refine wl_nil ?_
  refine qs_seq ?_
  refine wc_seq ?_
  refine wc_region ?_
  refine wl_move rfl rfl ?_
  refine wl_move rfl rfl ?_
  have hC1 := hS.split [0] [true, false] rfl; dsimp only [selF, pickA, nthA, List.cons_append, List.nil_append] at hC1
  refine wl_call cal_13 rfl (qGetP_sp hC1 hn id (by omega) (hP.len _)) rfl ?_
  rintro e w1 ⟨_, rfl, rfl, hS1⟩; refine ⟨_, rfl, ?_⟩
  replace hS1 := hS1.join rfl; dsimp only [List.dropLast, List.cons_append, List.nil_append] at hS1; clear hC1
  refine wl_move rfl rfl ?_
  refine wl_extract rfl rfl rfl ?_
  refine wl_extract rfl rfl rfl ?_
  refine wl_alloc hS1 zr_39 rfl rfl ?_
  intro b2 w2 hS2
  clear hS1
  first | (refine wl_storeA hS2 rfl rfl sz_39 rfl (by first | rfl | (simp [allOne, Value.oneCell']; done) | assumption | exact hone) (i := 0) rfl (by first | decide | exact Nat.le_of_ble_eq_true rfl | (simp; done) | omega) ?_)
  intro w3 hS4; dsimp only [List.set] at hS4
  clear hS2
  refine wl_assign rfl rfl ?_
  refine wl_nil ?_
  refine qs_seq ?_
  refine wc_sub (L' := [(8, _), (7, _), (6, _), (0, _), (1, _), (2, _)]) (.cons rfl (.cons rfl (.cons rfl (.cons rfl (.cons rfl (.cons rfl .nil)))))) ?_
  refine wc_seq ?_
  refine wc_seq ?_
  refine wc_region ?_
  refine wl_move rfl rfl ?_
  refine wl_not rfl rfl ?_
  refine wl_nil ?_
  refine qs_seq ?_
  refine wc_cond rfl (fun h5 => ?_) (fun h5 => ?_)
  · skip
    have hx := gB_none (W := W) (id := id) (by simpa using h5)
    refine wc_seq ?_
    refine wc_region ?_
    refine wl_assign rfl rfl ?_
    refine wl_nil ?_
    refine qs_seq ?_
    refine wc_ret ?_
    refine qs_then_ret ?_
    refine fin1 (.inr rfl) rfl rfl ?_
    exact ⟨_, rfl, by unfold closeE; rw [hx], by unfold closeP; rw [hx]; exact refP_up (by omega) (hS4.pick [1, 2] rfl)⟩
  · skip
    obtain ⟨x, hx, hxd⟩ := gB_some (W := W) (id := id) (by simpa using h5)
    rw [hxd] at hS4
    have ho := gP_ok hx
    have hod := ho.d
    have hor := ho.r
    have how := ho.w
    refine wc_skip ?_
    refine qs_seq ?_
    refine wc_seq ?_
    refine wc_seq ?_
    refine wc_region ?_
    refine wl_move rfl rfl ?_
    refine wl_move rfl rfl ?_
    refine wl_split 18 rfl (fun h6 => ?_) (fun h6 => ?_)
    · skip
      have hwr : wr = true := h6
      subst hwr
      refine wl_guard rfl rfl h6 ?_
      refine wl_fieldAddr rfl fo_39_2 rfl ?_
      refine wl_guard rfl rfl h6 ?_
      refine wl_load rfl ag_3 (by first | assumption | exact hS4.cell 0 rfl rfl) rfl ?_
      refine wl_guard rfl rfl h6 ?_
      refine wl_eql rfl rfl rfl ?_
      refine wl_pickT rfl h6 rfl rfl ?_
      refine wl_move rfl rfl ?_
      refine wl_splitD 23 rfl (fun h7 => ?_) (fun h7 => ?_)
      · skip
        refine wl_unwanted rfl rfl (decide_eq_true h7) rfl ?_
        refine wl_unwanted rfl rfl (decide_eq_true h7) rfl ?_
        refine wl_unwanted rfl rfl (decide_eq_true h7) rfl ?_
        refine wl_unguarded rfl rfl rfl ?_
        refine wl_unguarded rfl rfl rfl ?_
        refine wl_unguarded rfl rfl rfl ?_
        refine wl_unwanted rfl rfl (decide_eq_true h7) rfl ?_
        refine wl_pickT rfl (decide_eq_true h7) rfl rfl ?_
        refine wl_nil ?_
        refine qs_seq ?_
        refine wc_sub (L' := [(31, _), (7, _), (6, _), (0, _), (1, _), (2, _)]) (.cons rfl (.cons rfl (.cons rfl (.cons rfl (.cons rfl (.cons rfl .nil)))))) ?_
        refine wc_condT rfl ?_
        refine wc_seq ?_
        refine wc_region ?_
        refine wl_assign rfl rfl ?_
        refine wl_nil ?_
        refine qs_seq ?_
        refine wc_ret ?_
        refine qs_then_ret ?_
        refine fin1 (.inr rfl) rfl rfl ?_
        have h0 : endE x true = 0 := by show x.w = 0; assumption
        exact ⟨_, rfl, by unfold closeE; rw [hx]; dsimp only; rw [if_pos h0], by unfold closeP; rw [hx]; dsimp only; rw [if_pos h0]; exact refP_up (by omega) (hS4.pick [1, 2] rfl)⟩
      · skip
        refine wl_guard rfl rfl (decide_eq_false h7) ?_
        refine wl_move rfl rfl ?_
        refine wl_guard rfl rfl (decide_eq_false h7) ?_
        refine wl_not rfl rfl ?_
        refine wl_guard rfl rfl (decide_eq_false h7) ?_
        refine wl_move rfl rfl ?_
        refine wl_split 26 rfl (fun h8 => ?_) (fun h8 => ?_)
        · skip
          cases h8
        · skip
          refine wl_unwanted rfl rfl h8 rfl ?_
          refine wl_unwanted rfl rfl h8 rfl ?_
          refine wl_unwanted rfl rfl h8 rfl ?_
          refine wl_guard rfl rfl (decide_eq_false h7) ?_
          refine wl_pickF rfl h8 rfl rfl ?_
          refine wl_pickF rfl (decide_eq_false h7) rfl rfl ?_
          refine wl_nil ?_
          refine qs_seq ?_
          refine wc_sub (L' := [(31, _), (7, _), (6, _), (0, _), (1, _), (2, _)]) (.cons rfl (.cons rfl (.cons rfl (.cons rfl (.cons rfl (.cons rfl .nil)))))) ?_
          refine wc_condF rfl ?_
          refine wc_skip ?_
          refine qs_seq ?_
          refine wc_seq ?_
          refine wc_seq ?_
          refine wc_region ?_
          refine wl_move rfl rfl ?_
          refine wl_nil ?_
          refine qs_seq ?_
          refine wc_cond rfl (fun h9 => ?_) (fun h9 => ?_)
          · skip
            refine wc_region ?_
            refine wl_fieldAddr rfl fo_39_2 rfl ?_
            refine wl_load rfl ag_3 (by first | assumption | exact hS4.cell 0 rfl rfl) rfl ?_
            refine wl_sub' rfl rfl (by first | omega | (simp; omega)) (by first | omega | (simp; omega)) rfl ?_
            refine wl_fieldAddr rfl fo_39_2 rfl ?_
            first | (refine wl_store hS4 rfl rfl sz_3 (by first | rfl | assumption) (i := 0) rfl (by first | decide | exact Nat.le_of_ble_eq_true rfl | (simp; done) | omega) ?_)
            intro w10 hS11; dsimp only [List.set] at hS11
            clear hS4
            refine wl_nil ?_
            refine qs_seq ?_
            refine wc_sub (L' := [(7, _), (6, _), (0, _), (1, _)]) (.cons rfl (.cons rfl (.cons rfl (.cons rfl .nil)))) ?_
            refine wc_seq ?_
            refine wc_seq ?_
            refine wc_region ?_
            refine wl_fieldAddr rfl fo_39_2 rfl ?_
            refine wl_load rfl ag_3 (by first | assumption | exact hS11.cell 0 rfl rfl) rfl ?_
            refine wl_eql rfl rfl rfl ?_
            refine wl_move rfl rfl ?_
            refine wl_splitD 44 rfl (fun h12 => ?_) (fun h12 => ?_)
            · skip
              refine wl_guard rfl rfl (decide_eq_true h12) ?_
              refine wl_fieldAddr rfl fo_39_1 rfl ?_
              refine wl_guard rfl rfl (decide_eq_true h12) ?_
              refine wl_load rfl ag_3 (by first | assumption | exact hS11.cell 0 rfl rfl) rfl ?_
              refine wl_guard rfl rfl (decide_eq_true h12) ?_
              refine wl_eql rfl rfl rfl ?_
              refine wl_pickT rfl (decide_eq_true h12) rfl rfl ?_
              refine wl_nil ?_
              refine qs_seq ?_
              refine wc_sub (L' := [(48, _), (7, _), (6, _), (0, _), (1, _)]) (.cons rfl (.cons rfl (.cons rfl (.cons rfl (.cons rfl .nil))))) ?_
              refine wc_condD rfl (fun h13 => ?_) (fun h13 => ?_)
              · skip
                refine wc_region ?_
                refine wl_move rfl rfl ?_
                refine wl_move rfl rfl ?_
                refine wl_concat rfl rfl (by first | omega | (simp; omega)) rfl ?_
                have hC14 := hS11.split [1] [false, true, false] rfl; dsimp only [selF, pickA, nthA, List.cons_append, List.nil_append] at hC14
                refine wl_call cal_9 rfl (qPut hC14 hn (kP id) []) rfl ?_
                rintro e w14 ⟨_, rfl, rfl, hS14⟩; refine ⟨_, rfl, ?_⟩
                replace hS14 := hS14.join rfl; dsimp only [List.dropLast, List.cons_append, List.nil_append] at hS14; clear hC14
                clear hS11
                refine wl_nil ?_
                refine qs_seq ?_
                refine wc_seq ?_
                refine wc_region ?_
                refine wl_assign rfl rfl ?_
                refine wl_nil ?_
                refine qs_seq ?_
                refine wc_ret ?_
                refine fin1 (.inr rfl) rfl rfl ?_
                have h0 : ¬ endE x true = 0 := by show ¬ x.w = 0; assumption
                exact ⟨_, rfl, by unfold closeE; rw [hx]; dsimp only; rw [if_neg h0], by unfold closeP; rw [hx]; dsimp only; rw [if_neg h0, addE_dec ho, if_pos (show (decE x true).r = 0 ∧ (decE x true).w = 0 from ⟨by assumption, by assumption⟩)]; exact refP_up (by omega) (hS14.pick [0, 2] rfl)⟩
              · skip
                refine wc_region ?_
                refine wl_move rfl rfl ?_
                refine wl_move rfl rfl ?_
                refine wl_loadA rfl ag_39 sz_39 (by first | exact hS11.blk 0 rfl) (by first | decide | exact Nat.le_of_ble_eq_true rfl | (simp; done) | omega) rfl rfl ?_
                have hC15 := hS11.split [1] [false, true, false] rfl; dsimp only [selF, pickA, nthA, List.cons_append, List.nil_append] at hC15
                refine wl_call cal_55 rfl (qput_sp hC15 hn id (by omega) (decE x true) (decE_in ho true).1 (decE_in ho true).2.1 (decE_in ho true).2.2) rfl ?_
                rintro e w15 ⟨_, rfl, rfl, hS15⟩; refine ⟨_, rfl, ?_⟩
                replace hS15 := hS15.join rfl; dsimp only [List.dropLast, List.cons_append, List.nil_append] at hS15; clear hC15
                clear hS11
                refine wl_nil ?_
                refine qs_seq ?_
                refine wc_seq ?_
                refine wc_region ?_
                refine wl_assign rfl rfl ?_
                refine wl_nil ?_
                refine qs_seq ?_
                refine wc_ret ?_
                refine fin1 (.inr rfl) rfl rfl ?_
                have h0 : ¬ endE x true = 0 := by show ¬ x.w = 0; assumption
                have hz : ¬ ((decE x true).r = 0 ∧ (decE x true).w = 0) := by rintro ⟨q1, q2⟩; first | exact absurd q2 (by assumption) | exact absurd q1 (by assumption)
                exact ⟨_, rfl, by unfold closeE; rw [hx]; dsimp only; rw [if_neg h0], by unfold closeP; rw [hx]; dsimp only; rw [if_neg h0, addE_dec ho, if_neg hz]; exact refP_up (by omega) (hS15.pick [0, 2] rfl)⟩
            · skip
              refine wl_unwanted rfl rfl (decide_eq_false h12) rfl ?_
              refine wl_unwanted rfl rfl (decide_eq_false h12) rfl ?_
              refine wl_unwanted rfl rfl (decide_eq_false h12) rfl ?_
              refine wl_pickF rfl (decide_eq_false h12) rfl rfl ?_
              refine wl_nil ?_
              refine qs_seq ?_
              refine wc_sub (L' := [(48, _), (7, _), (6, _), (0, _), (1, _)]) (.cons rfl (.cons rfl (.cons rfl (.cons rfl (.cons rfl .nil))))) ?_
              refine wc_condF rfl ?_
              refine wc_region ?_
              refine wl_move rfl rfl ?_
              refine wl_move rfl rfl ?_
              refine wl_loadA rfl ag_39 sz_39 (by first | exact hS11.blk 0 rfl) (by first | decide | exact Nat.le_of_ble_eq_true rfl | (simp; done) | omega) rfl rfl ?_
              have hC16 := hS11.split [1] [false, true, false] rfl; dsimp only [selF, pickA, nthA, List.cons_append, List.nil_append] at hC16
              refine wl_call cal_55 rfl (qput_sp hC16 hn id (by omega) (decE x true) (decE_in ho true).1 (decE_in ho true).2.1 (decE_in ho true).2.2) rfl ?_
              rintro e w16 ⟨_, rfl, rfl, hS16⟩; refine ⟨_, rfl, ?_⟩
              replace hS16 := hS16.join rfl; dsimp only [List.dropLast, List.cons_append, List.nil_append] at hS16; clear hC16
              clear hS11
              refine wl_nil ?_
              refine qs_seq ?_
              refine wc_seq ?_
              refine wc_region ?_
              refine wl_assign rfl rfl ?_
              refine wl_nil ?_
              refine qs_seq ?_
              refine wc_ret ?_
              refine fin1 (.inr rfl) rfl rfl ?_
              have h0 : ¬ endE x true = 0 := by show ¬ x.w = 0; assumption
              have hz : ¬ ((decE x true).r = 0 ∧ (decE x true).w = 0) := by rintro ⟨q1, q2⟩; first | exact absurd q2 (by assumption) | exact absurd q1 (by assumption)
              exact ⟨_, rfl, by unfold closeE; rw [hx]; dsimp only; rw [if_neg h0], by unfold closeP; rw [hx]; dsimp only; rw [if_neg h0, addE_dec ho, if_neg hz]; exact refP_up (by omega) (hS16.pick [0, 2] rfl)⟩
          · skip
            cases h9
    · skip
      have hwr : wr = false := h6
      subst hwr
      refine wl_unwanted rfl rfl h6 rfl ?_
      refine wl_unwanted rfl rfl h6 rfl ?_
      refine wl_unwanted rfl rfl h6 rfl ?_
      refine wl_pickF rfl h6 rfl rfl ?_
      refine wl_move rfl rfl ?_
      refine wl_guard rfl rfl rfl ?_
      refine wl_move rfl rfl ?_
      refine wl_guard rfl rfl rfl ?_
      refine wl_not rfl rfl ?_
      refine wl_guard rfl rfl rfl ?_
      refine wl_move rfl rfl ?_
      refine wl_split 26 rfl (fun h17 => ?_) (fun h17 => ?_)
      · skip
        refine wl_guard rfl rfl h17 ?_
        refine wl_fieldAddr rfl fo_39_1 rfl ?_
        refine wl_guard rfl rfl h17 ?_
        refine wl_load rfl ag_3 (by first | assumption | exact hS4.cell 0 rfl rfl) rfl ?_
        refine wl_guard rfl rfl h17 ?_
        refine wl_eql rfl rfl rfl ?_
        refine wl_guard rfl rfl rfl ?_
        refine wl_pickT rfl h17 rfl rfl ?_
        refine wl_pickF rfl rfl rfl rfl ?_
        refine wl_nil ?_
        refine qs_seq ?_
        refine wc_sub (L' := [(31, _), (7, _), (6, _), (0, _), (1, _), (2, _)]) (.cons rfl (.cons rfl (.cons rfl (.cons rfl (.cons rfl (.cons rfl .nil)))))) ?_
        refine wc_condD rfl (fun h18 => ?_) (fun h18 => ?_)
        · skip
          refine wc_seq ?_
          refine wc_region ?_
          refine wl_assign rfl rfl ?_
          refine wl_nil ?_
          refine qs_seq ?_
          refine wc_ret ?_
          refine qs_then_ret ?_
          refine fin1 (.inr rfl) rfl rfl ?_
          have h0 : endE x false = 0 := by show x.r = 0; assumption
          exact ⟨_, rfl, by unfold closeE; rw [hx]; dsimp only; rw [if_pos h0], by unfold closeP; rw [hx]; dsimp only; rw [if_pos h0]; exact refP_up (by omega) (hS4.pick [1, 2] rfl)⟩
        · skip
          refine wc_skip ?_
          refine qs_seq ?_
          refine wc_seq ?_
          refine wc_seq ?_
          refine wc_region ?_
          refine wl_move rfl rfl ?_
          refine wl_nil ?_
          refine qs_seq ?_
          refine wc_cond rfl (fun h19 => ?_) (fun h19 => ?_)
          · skip
            cases h19
          · skip
            refine wc_region ?_
            refine wl_fieldAddr rfl fo_39_1 rfl ?_
            refine wl_load rfl ag_3 (by first | assumption | exact hS4.cell 0 rfl rfl) rfl ?_
            refine wl_sub' rfl rfl (by first | omega | (simp; omega)) (by first | omega | (simp; omega)) rfl ?_
            refine wl_fieldAddr rfl fo_39_1 rfl ?_
            first | (refine wl_store hS4 rfl rfl sz_3 (by first | rfl | assumption) (i := 0) rfl (by first | decide | exact Nat.le_of_ble_eq_true rfl | (simp; done) | omega) ?_)
            intro w20 hS21; dsimp only [List.set] at hS21
            clear hS4
            refine wl_nil ?_
            refine qs_seq ?_
            refine wc_sub (L' := [(7, _), (6, _), (0, _), (1, _)]) (.cons rfl (.cons rfl (.cons rfl (.cons rfl .nil)))) ?_
            refine wc_seq ?_
            refine wc_seq ?_
            refine wc_region ?_
            refine wl_fieldAddr rfl fo_39_2 rfl ?_
            refine wl_load rfl ag_3 (by first | assumption | exact hS21.cell 0 rfl rfl) rfl ?_
            refine wl_eql rfl rfl rfl ?_
            refine wl_move rfl rfl ?_
            refine wl_splitD 44 rfl (fun h22 => ?_) (fun h22 => ?_)
            · skip
              refine wl_guard rfl rfl (decide_eq_true h22) ?_
              refine wl_fieldAddr rfl fo_39_1 rfl ?_
              refine wl_guard rfl rfl (decide_eq_true h22) ?_
              refine wl_load rfl ag_3 (by first | assumption | exact hS21.cell 0 rfl rfl) rfl ?_
              refine wl_guard rfl rfl (decide_eq_true h22) ?_
              refine wl_eql rfl rfl rfl ?_
              refine wl_pickT rfl (decide_eq_true h22) rfl rfl ?_
              refine wl_nil ?_
              refine qs_seq ?_
              refine wc_sub (L' := [(48, _), (7, _), (6, _), (0, _), (1, _)]) (.cons rfl (.cons rfl (.cons rfl (.cons rfl (.cons rfl .nil))))) ?_
              refine wc_condD rfl (fun h23 => ?_) (fun h23 => ?_)
              · skip
                refine wc_region ?_
                refine wl_move rfl rfl ?_
                refine wl_move rfl rfl ?_
                refine wl_concat rfl rfl (by first | omega | (simp; omega)) rfl ?_
                have hC24 := hS21.split [1] [false, true, false] rfl; dsimp only [selF, pickA, nthA, List.cons_append, List.nil_append] at hC24
                refine wl_call cal_9 rfl (qPut hC24 hn (kP id) []) rfl ?_
                rintro e w24 ⟨_, rfl, rfl, hS24⟩; refine ⟨_, rfl, ?_⟩
                replace hS24 := hS24.join rfl; dsimp only [List.dropLast, List.cons_append, List.nil_append] at hS24; clear hC24
                clear hS21
                refine wl_nil ?_
                refine qs_seq ?_
                refine wc_seq ?_
                refine wc_region ?_
                refine wl_assign rfl rfl ?_
                refine wl_nil ?_
                refine qs_seq ?_
                refine wc_ret ?_
                refine fin1 (.inr rfl) rfl rfl ?_
                have h0 : ¬ endE x false = 0 := by show ¬ x.r = 0; assumption
                exact ⟨_, rfl, by unfold closeE; rw [hx]; dsimp only; rw [if_neg h0], by unfold closeP; rw [hx]; dsimp only; rw [if_neg h0, addE_dec ho, if_pos (show (decE x false).r = 0 ∧ (decE x false).w = 0 from ⟨by assumption, by assumption⟩)]; exact refP_up (by omega) (hS24.pick [0, 2] rfl)⟩
              · skip
                refine wc_region ?_
                refine wl_move rfl rfl ?_
                refine wl_move rfl rfl ?_
                refine wl_loadA rfl ag_39 sz_39 (by first | exact hS21.blk 0 rfl) (by first | decide | exact Nat.le_of_ble_eq_true rfl | (simp; done) | omega) rfl rfl ?_
                have hC25 := hS21.split [1] [false, true, false] rfl; dsimp only [selF, pickA, nthA, List.cons_append, List.nil_append] at hC25
                refine wl_call cal_55 rfl (qput_sp hC25 hn id (by omega) (decE x false) (decE_in ho false).1 (decE_in ho false).2.1 (decE_in ho false).2.2) rfl ?_
                rintro e w25 ⟨_, rfl, rfl, hS25⟩; refine ⟨_, rfl, ?_⟩
                replace hS25 := hS25.join rfl; dsimp only [List.dropLast, List.cons_append, List.nil_append] at hS25; clear hC25
                clear hS21
                refine wl_nil ?_
                refine qs_seq ?_
                refine wc_seq ?_
                refine wc_region ?_
                refine wl_assign rfl rfl ?_
                refine wl_nil ?_
                refine qs_seq ?_
                refine wc_ret ?_
                refine fin1 (.inr rfl) rfl rfl ?_
                have h0 : ¬ endE x false = 0 := by show ¬ x.r = 0; assumption
                have hz : ¬ ((decE x false).r = 0 ∧ (decE x false).w = 0) := by rintro ⟨q1, q2⟩; first | exact absurd q2 (by assumption) | exact absurd q1 (by assumption)
                exact ⟨_, rfl, by unfold closeE; rw [hx]; dsimp only; rw [if_neg h0], by unfold closeP; rw [hx]; dsimp only; rw [if_neg h0, addE_dec ho, if_neg hz]; exact refP_up (by omega) (hS25.pick [0, 2] rfl)⟩
            · skip
              refine wl_unwanted rfl rfl (decide_eq_false h22) rfl ?_
              refine wl_unwanted rfl rfl (decide_eq_false h22) rfl ?_
              refine wl_unwanted rfl rfl (decide_eq_false h22) rfl ?_
              refine wl_pickF rfl (decide_eq_false h22) rfl rfl ?_
              refine wl_nil ?_
              refine qs_seq ?_
              refine wc_sub (L' := [(48, _), (7, _), (6, _), (0, _), (1, _)]) (.cons rfl (.cons rfl (.cons rfl (.cons rfl (.cons rfl .nil))))) ?_
              refine wc_condF rfl ?_
              refine wc_region ?_
              refine wl_move rfl rfl ?_
              refine wl_move rfl rfl ?_
              refine wl_loadA rfl ag_39 sz_39 (by first | exact hS21.blk 0 rfl) (by first | decide | exact Nat.le_of_ble_eq_true rfl | (simp; done) | omega) rfl rfl ?_
              have hC26 := hS21.split [1] [false, true, false] rfl; dsimp only [selF, pickA, nthA, List.cons_append, List.nil_append] at hC26
              refine wl_call cal_55 rfl (qput_sp hC26 hn id (by omega) (decE x false) (decE_in ho false).1 (decE_in ho false).2.1 (decE_in ho false).2.2) rfl ?_
              rintro e w26 ⟨_, rfl, rfl, hS26⟩; refine ⟨_, rfl, ?_⟩
              replace hS26 := hS26.join rfl; dsimp only [List.dropLast, List.cons_append, List.nil_append] at hS26; clear hC26
              clear hS21
              refine wl_nil ?_
              refine qs_seq ?_
              refine wc_seq ?_
              refine wc_region ?_
              refine wl_assign rfl rfl ?_
              refine wl_nil ?_
              refine qs_seq ?_
              refine wc_ret ?_
              refine fin1 (.inr rfl) rfl rfl ?_
              have h0 : ¬ endE x false = 0 := by show ¬ x.r = 0; assumption
              have hz : ¬ ((decE x false).r = 0 ∧ (decE x false).w = 0) := by rintro ⟨q1, q2⟩; first | exact absurd q2 (by assumption) | exact absurd q1 (by assumption)
              exact ⟨_, rfl, by unfold closeE; rw [hx]; dsimp only; rw [if_neg h0], by unfold closeP; rw [hx]; dsimp only; rw [if_neg h0, addE_dec ho, if_neg hz]; exact refP_up (by omega) (hS26.pick [0, 2] rfl)⟩
      · skip
        cases h17

set_option maxRecDepth 100000 in
theorem qRead_sp {w : World} {F : Th} {p m : Nat} {W : WS} (hS : Sat w [refP p W m, F]) (hn : m ≤ 1000) (hP : PI W m) (id : Bs) (hid : id.length ≤ 200) (n : Int) :
    Calls Tryz.prog 32 #[ptrV p 0, strV id, intV n] w (Ret fun v w' => v = .tuple #[strV (readV W id n).1, intV (readV W id n).2] ∧ Sat w' [refP p (readP W id n) (m + 1), F]) := by
  refine calls_enter Tryz.func32 rfl Tryz.ntmps32 rfl ?_
  refine wc_seq ?_
  refine wc_region ?_
  refine wl_assign rfl rfl ?_
  refine wl_assign rfl rfl ?_
  refine wl_nil ?_
  refine qs_seq ?_
  refine wc_seq ?_
  refine wc_region ?_
  refine wl_move rfl rfl ?_
  refine wl_move rfl rfl ?_
  have hC1 := hS.split [0] [true, false] rfl; dsimp only [selF, pickA, nthA, List.cons_append, List.nil_append] at hC1
  refine wl_call cal_13 rfl (qGetP_sp hC1 hn id (by omega) (hP.len _)) rfl ?_
  rintro e w1 ⟨_, rfl, rfl, hS1⟩; refine ⟨_, rfl, ?_⟩
  replace hS1 := hS1.join rfl; dsimp only [List.dropLast, List.cons_append, List.nil_append] at hS1; clear hC1
  refine wl_move rfl rfl ?_
  refine wl_extract rfl rfl rfl ?_
  refine wl_extract rfl rfl rfl ?_
  refine wl_alloc hS1 zr_39 rfl rfl ?_
  intro b2 w2 hS2
  clear hS1
  first | (refine wl_storeA hS2 rfl rfl sz_39 rfl (by first | rfl | (simp [allOne, Value.oneCell']; done) | assumption | exact hone) (i := 0) rfl (by first | decide | exact Nat.le_of_ble_eq_true rfl | (simp; done) | omega) ?_)
  intro w3 hS4; dsimp only [List.set] at hS4
  clear hS2
  refine wl_assign rfl rfl ?_
  refine wl_nil ?_
  refine qs_seq ?_
  refine wc_sub (L' := [(9, _), (8, _), (7, _), (6, _), (0, _), (1, _), (2, _)]) (.cons rfl (.cons rfl (.cons rfl (.cons rfl (.cons rfl (.cons rfl (.cons rfl .nil))))))) ?_
  refine wc_seq ?_
  refine wc_seq ?_
  refine wc_region ?_
  refine wl_move rfl rfl ?_
  refine wl_not rfl rfl ?_
  refine wl_nil ?_
  refine qs_seq ?_
  refine wc_cond rfl (fun h5 => ?_) (fun h5 => ?_)
  · skip
    have hx := gB_none (W := W) (id := id) (by simpa using h5)
    refine wc_seq ?_
    refine wc_region ?_
    refine wl_assign rfl rfl ?_
    refine wl_assign rfl rfl ?_
    refine wl_nil ?_
    refine qs_seq ?_
    refine wc_ret ?_
    refine qs_then_ret ?_
    refine fin2 (.inr rfl) rfl rfl rfl ?_
    exact ⟨_, rfl, by unfold readV; rw [hx], by unfold readP; rw [hx]; exact refP_up (by omega) (hS4.pick [1, 2] rfl)⟩
  · skip
    obtain ⟨x, hx, hxd⟩ := gB_some (W := W) (id := id) (by simpa using h5)
    rw [hxd] at hS4
    have ho := gP_ok hx
    have hod := ho.d
    have hor := ho.r
    have how := ho.w
    refine wc_skip ?_
    refine qs_seq ?_
    refine wc_seq ?_
    refine wc_seq ?_
    refine wc_region ?_
    refine wl_move rfl rfl ?_
    refine wl_lss rfl rfl rfl ?_
    refine wl_nil ?_
    refine qs_seq ?_
    refine wc_sub (L' := [(20, _), (8, _), (7, _), (6, _), (0, _), (1, _), (2, _)]) (.cons rfl (.cons rfl (.cons rfl (.cons rfl (.cons rfl (.cons rfl (.cons rfl .nil))))))) ?_
    refine wc_condD rfl (fun h6 => ?_) (fun h6 => ?_)
    · skip
      refine wc_seq ?_
      refine wc_region ?_
      refine wl_assign rfl rfl ?_
      refine wl_assign rfl rfl ?_
      refine wl_nil ?_
      refine qs_seq ?_
      refine wc_ret ?_
      refine qs_then_ret ?_
      refine fin2 (.inr rfl) rfl rfl rfl ?_
      exact ⟨_, rfl, by unfold readV; rw [hx]; dsimp only; rw [if_pos (by omega)], by unfold readP; rw [hx]; dsimp only; rw [if_pos (.inl (by omega))]; exact refP_up (by omega) (hS4.pick [1, 2] rfl)⟩
    · skip
      refine wc_skip ?_
      refine qs_seq ?_
      refine wc_seq ?_
      refine wc_seq ?_
      refine wc_region ?_
      refine wl_fieldAddr rfl fo_39_0 rfl ?_
      refine wl_load rfl ag_9 (by first | assumption | exact hS4.cell 0 rfl rfl) rfl ?_
      refine wl_eqlS rfl rfl rfl ?_
      refine wl_move rfl rfl ?_
      refine wl_splitD 24 rfl (fun h7 => ?_) (fun h7 => ?_)
      · skip
        refine wl_guard rfl rfl (decide_eq_true h7) ?_
        refine wl_fieldAddr rfl fo_39_2 rfl ?_
        refine wl_guard rfl rfl (decide_eq_true h7) ?_
        refine wl_load rfl ag_3 (by first | assumption | exact hS4.cell 0 rfl rfl) rfl ?_
        refine wl_guard rfl rfl (decide_eq_true h7) ?_
        refine wl_eql rfl rfl rfl ?_
        refine wl_pickT rfl (decide_eq_true h7) rfl rfl ?_
        refine wl_nil ?_
        refine qs_seq ?_
        refine wc_sub (L' := [(28, _), (8, _), (7, _), (6, _), (0, _), (1, _), (2, _)]) (.cons rfl (.cons rfl (.cons rfl (.cons rfl (.cons rfl (.cons rfl (.cons rfl .nil))))))) ?_
        refine wc_condD rfl (fun h8 => ?_) (fun h8 => ?_)
        · skip
          refine wc_seq ?_
          refine wc_region ?_
          refine wl_assign rfl rfl ?_
          refine wl_assign rfl rfl ?_
          refine wl_nil ?_
          refine qs_seq ?_
          refine wc_ret ?_
          refine qs_then_ret ?_
          refine fin2 (.inr rfl) rfl rfl rfl ?_
          exact ⟨_, rfl, by unfold readV; rw [hx]; dsimp only; rw [if_neg (by omega), if_pos ⟨by assumption, by assumption⟩], by unfold readP; rw [hx]; dsimp only; rw [if_pos (.inr (by assumption))]; exact refP_up (by omega) (hS4.pick [1, 2] rfl)⟩
        · skip
          refine wc_skip ?_
          refine qs_seq ?_
          refine wc_seq ?_
          refine wc_seq ?_
          refine wc_region ?_
          refine wl_fieldAddr rfl fo_39_0 rfl ?_
          refine wl_load rfl ag_9 (by first | assumption | exact hS4.cell 0 rfl rfl) rfl ?_
          refine wl_eqlS rfl rfl rfl ?_
          refine wl_nil ?_
          refine qs_seq ?_
          refine wc_condD rfl (fun h9 => ?_) (fun h9 => ?_)
          · skip
            refine wc_seq ?_
            refine wc_region ?_
            refine wl_assign rfl rfl ?_
            refine wl_assign rfl rfl ?_
            refine wl_nil ?_
            refine qs_seq ?_
            refine wc_ret ?_
            refine qs_then_ret ?_
            refine fin2 (.inr rfl) rfl rfl rfl ?_
            exact ⟨_, rfl, by unfold readV; rw [hx]; dsimp only; rw [if_neg (by omega), if_neg (by rintro ⟨q1, q2⟩; contradiction), if_pos (by assumption)], by unfold readP; rw [hx]; dsimp only; rw [if_pos (.inr (by assumption))]; exact refP_up (by omega) (hS4.pick [1, 2] rfl)⟩
          · skip
            refine wc_skip ?_
            refine qs_seq ?_
            refine wc_seq ?_
            refine wc_region ?_
            refine wl_move rfl rfl ?_
            refine wl_fieldAddr rfl fo_39_0 rfl ?_
            refine wl_load rfl ag_9 (by first | assumption | exact hS4.cell 0 rfl rfl) rfl ?_
            refine wl_lenS Tryz.underlying9 rfl rfl ?_
            refine wl_minI rfl rfl rfl ?_
            refine wl_assign rfl rfl ?_
            refine wl_nil ?_
            refine qs_seq ?_
            refine wc_sub (L' := [(2, _), (8, _), (7, _), (6, _), (0, _), (1, _)]) (.cons rfl (.cons rfl (.cons rfl (.cons rfl (.cons rfl (.cons rfl .nil)))))) ?_
            refine wc_seq ?_
            refine wc_region ?_
            refine wl_fieldAddr rfl fo_39_0 rfl ?_
            refine wl_load rfl ag_9 (by first | assumption | exact hS4.cell 0 rfl rfl) rfl ?_
            refine wl_move rfl rfl ?_
            refine wl_sliceS 0 (min n x.d.length).toNat Tryz.underlying9 rfl (bndN _) (bndS (min n x.d.length).toNat _ rfl (by omega)) (by omega) (by omega) rfl ?_
            rw [List.drop_zero]
            refine wl_assign rfl rfl ?_
            refine wl_nil ?_
            refine qs_seq ?_
            refine wc_sub (L' := [(10, _), (2, _), (8, _), (7, _), (6, _), (0, _), (1, _)]) (.cons rfl (.cons rfl (.cons rfl (.cons rfl (.cons rfl (.cons rfl (.cons rfl .nil))))))) ?_
            refine wc_seq ?_
            refine wc_region ?_
            refine wl_fieldAddr rfl fo_39_0 rfl ?_
            refine wl_load rfl ag_9 (by first | assumption | exact hS4.cell 0 rfl rfl) rfl ?_
            refine wl_move rfl rfl ?_
            refine wl_sliceS (min n x.d.length).toNat x.d.length Tryz.underlying9 rfl (bndS (min n x.d.length).toNat _ rfl (by omega)) (bndN _) (by omega) (by omega) rfl ?_
            rw [List.take_length]
            refine wl_fieldAddr rfl fo_39_0 rfl ?_
            first | (refine wl_store hS4 rfl rfl sz_9 (by first | rfl | assumption) (i := 0) rfl (by first | decide | exact Nat.le_of_ble_eq_true rfl | (simp; done) | omega) ?_)
            intro w10 hS11; dsimp only [List.set] at hS11
            clear hS4
            refine wl_nil ?_
            refine qs_seq ?_
            refine wc_sub (L' := [(10, _), (8, _), (7, _), (6, _), (0, _), (1, _)]) (.cons rfl (.cons rfl (.cons rfl (.cons rfl (.cons rfl (.cons rfl .nil)))))) ?_
            refine wc_seq ?_
            refine wc_region ?_
            refine wl_move rfl rfl ?_
            refine wl_move rfl rfl ?_
            refine wl_loadA rfl ag_39 sz_39 (by first | exact hS11.blk 0 rfl) (by first | decide | exact Nat.le_of_ble_eq_true rfl | (simp; done) | omega) rfl rfl ?_
            have hC12 := hS11.split [1] [false, true, false] rfl; dsimp only [selF, pickA, nthA, List.cons_append, List.nil_append] at hC12
            refine wl_call cal_55 rfl (qput_sp hC12 hn id (by omega) { x with d := x.d.drop (min n x.d.length).toNat } (by simp only [List.length_drop, List.length_append, List.length_take]; omega) ho.ri ho.wi) rfl ?_
            rintro e w12 ⟨_, rfl, rfl, hS12⟩; refine ⟨_, rfl, ?_⟩
            replace hS12 := hS12.join rfl; dsimp only [List.dropLast, List.cons_append, List.nil_append] at hS12; clear hC12
            clear hS11
            refine wl_nil ?_
            refine qs_seq ?_
            refine wc_seq ?_
            refine wc_region ?_
            refine wl_move rfl rfl ?_
            refine wl_assign rfl rfl ?_
            refine wl_assign rfl rfl ?_
            refine wl_nil ?_
            refine qs_seq ?_
            refine wc_sub (L' := [(7, _), (6, _)]) (.cons rfl (.cons rfl .nil)) ?_
            refine wc_ret ?_
            refine fin2 (.inr rfl) rfl rfl rfl ?_
            exact ⟨_, rfl, by unfold readV; rw [hx]; dsimp only; rw [if_neg (by omega), if_neg (by rintro ⟨q1, q2⟩; contradiction), if_neg (by assumption)], by unfold readP; rw [hx]; dsimp only; rw [if_neg (by rintro (q | q); omega; contradiction)]; exact refP_up (by omega) (hS12.pick [0, 2] rfl)⟩
      · skip
        refine wl_unwanted rfl rfl (decide_eq_false h7) rfl ?_
        refine wl_unwanted rfl rfl (decide_eq_false h7) rfl ?_
        refine wl_unwanted rfl rfl (decide_eq_false h7) rfl ?_
        refine wl_pickF rfl (decide_eq_false h7) rfl rfl ?_
        refine wl_nil ?_
        refine qs_seq ?_
        refine wc_sub (L' := [(28, _), (8, _), (7, _), (6, _), (0, _), (1, _), (2, _)]) (.cons rfl (.cons rfl (.cons rfl (.cons rfl (.cons rfl (.cons rfl (.cons rfl .nil))))))) ?_
        refine wc_condF rfl ?_
        refine wc_skip ?_
        refine qs_seq ?_
        refine wc_seq ?_
        refine wc_seq ?_
        refine wc_region ?_
        refine wl_fieldAddr rfl fo_39_0 rfl ?_
        refine wl_load rfl ag_9 (by first | assumption | exact hS4.cell 0 rfl rfl) rfl ?_
        refine wl_eqlS rfl rfl rfl ?_
        refine wl_nil ?_
        refine qs_seq ?_
        refine wc_condD rfl (fun h13 => ?_) (fun h13 => ?_)
        · skip
          refine wc_seq ?_
          refine wc_region ?_
          refine wl_assign rfl rfl ?_
          refine wl_assign rfl rfl ?_
          refine wl_nil ?_
          refine qs_seq ?_
          refine wc_ret ?_
          refine qs_then_ret ?_
          refine fin2 (.inr rfl) rfl rfl rfl ?_
          exact ⟨_, rfl, by unfold readV; rw [hx]; dsimp only; rw [if_neg (by omega), if_neg (by rintro ⟨q1, q2⟩; contradiction), if_pos (by assumption)], by unfold readP; rw [hx]; dsimp only; rw [if_pos (.inr (by assumption))]; exact refP_up (by omega) (hS4.pick [1, 2] rfl)⟩
        · skip
          refine wc_skip ?_
          refine qs_seq ?_
          refine wc_seq ?_
          refine wc_region ?_
          refine wl_move rfl rfl ?_
          refine wl_fieldAddr rfl fo_39_0 rfl ?_
          refine wl_load rfl ag_9 (by first | assumption | exact hS4.cell 0 rfl rfl) rfl ?_
          refine wl_lenS Tryz.underlying9 rfl rfl ?_
          refine wl_minI rfl rfl rfl ?_
          refine wl_assign rfl rfl ?_
          refine wl_nil ?_
          refine qs_seq ?_
          refine wc_sub (L' := [(2, _), (8, _), (7, _), (6, _), (0, _), (1, _)]) (.cons rfl (.cons rfl (.cons rfl (.cons rfl (.cons rfl (.cons rfl .nil)))))) ?_
          refine wc_seq ?_
          refine wc_region ?_
          refine wl_fieldAddr rfl fo_39_0 rfl ?_
          refine wl_load rfl ag_9 (by first | assumption | exact hS4.cell 0 rfl rfl) rfl ?_
          refine wl_move rfl rfl ?_
          refine wl_sliceS 0 (min n x.d.length).toNat Tryz.underlying9 rfl (bndN _) (bndS (min n x.d.length).toNat _ rfl (by omega)) (by omega) (by omega) rfl ?_
          rw [List.drop_zero]
          refine wl_assign rfl rfl ?_
          refine wl_nil ?_
          refine qs_seq ?_
          refine wc_sub (L' := [(10, _), (2, _), (8, _), (7, _), (6, _), (0, _), (1, _)]) (.cons rfl (.cons rfl (.cons rfl (.cons rfl (.cons rfl (.cons rfl (.cons rfl .nil))))))) ?_
          refine wc_seq ?_
          refine wc_region ?_
          refine wl_fieldAddr rfl fo_39_0 rfl ?_
          refine wl_load rfl ag_9 (by first | assumption | exact hS4.cell 0 rfl rfl) rfl ?_
          refine wl_move rfl rfl ?_
          refine wl_sliceS (min n x.d.length).toNat x.d.length Tryz.underlying9 rfl (bndS (min n x.d.length).toNat _ rfl (by omega)) (bndN _) (by omega) (by omega) rfl ?_
          rw [List.take_length]
          refine wl_fieldAddr rfl fo_39_0 rfl ?_
          first | (refine wl_store hS4 rfl rfl sz_9 (by first | rfl | assumption) (i := 0) rfl (by first | decide | exact Nat.le_of_ble_eq_true rfl | (simp; done) | omega) ?_)
          intro w14 hS15; dsimp only [List.set] at hS15
          clear hS4
          refine wl_nil ?_
          refine qs_seq ?_
          refine wc_sub (L' := [(10, _), (8, _), (7, _), (6, _), (0, _), (1, _)]) (.cons rfl (.cons rfl (.cons rfl (.cons rfl (.cons rfl (.cons rfl .nil)))))) ?_
          refine wc_seq ?_
          refine wc_region ?_
          refine wl_move rfl rfl ?_
          refine wl_move rfl rfl ?_
          refine wl_loadA rfl ag_39 sz_39 (by first | exact hS15.blk 0 rfl) (by first | decide | exact Nat.le_of_ble_eq_true rfl | (simp; done) | omega) rfl rfl ?_
          have hC16 := hS15.split [1] [false, true, false] rfl; dsimp only [selF, pickA, nthA, List.cons_append, List.nil_append] at hC16
          refine wl_call cal_55 rfl (qput_sp hC16 hn id (by omega) { x with d := x.d.drop (min n x.d.length).toNat } (by simp only [List.length_drop, List.length_append, List.length_take]; omega) ho.ri ho.wi) rfl ?_
          rintro e w16 ⟨_, rfl, rfl, hS16⟩; refine ⟨_, rfl, ?_⟩
          replace hS16 := hS16.join rfl; dsimp only [List.dropLast, List.cons_append, List.nil_append] at hS16; clear hC16
          clear hS15
          refine wl_nil ?_
          refine qs_seq ?_
          refine wc_seq ?_
          refine wc_region ?_
          refine wl_move rfl rfl ?_
          refine wl_assign rfl rfl ?_
          refine wl_assign rfl rfl ?_
          refine wl_nil ?_
          refine qs_seq ?_
          refine wc_sub (L' := [(7, _), (6, _)]) (.cons rfl (.cons rfl .nil)) ?_
          refine wc_ret ?_
          refine fin2 (.inr rfl) rfl rfl rfl ?_
          exact ⟨_, rfl, by unfold readV; rw [hx]; dsimp only; rw [if_neg (by omega), if_neg (by rintro ⟨q1, q2⟩; contradiction), if_neg (by assumption)], by unfold readP; rw [hx]; dsimp only; rw [if_neg (by rintro (q | q); omega; contradiction)]; exact refP_up (by omega) (hS16.pick [0, 2] rfl)⟩

set_option maxRecDepth 100000 in
theorem qWrite_sp {w : World} {F : Th} {p n : Nat} {W : WS} (hS : Sat w [refP p W n, F]) (hn : n ≤ 1000) (hP : PI W n) (id : Bs) (hid : id.length ≤ 200) (s : Bs) (hs : s.length ≤ 1000000) :
    Calls Tryz.prog 33 #[ptrV p 0, strV id, strV s] w (Ret fun v w' => v = .tuple #[intV (writeV W id s).1, intV (writeV W id s).2] ∧ Sat w' [refP p (writeP W id s) (n + 1), F]) := by
  refine calls_enter Tryz.func33 rfl Tryz.ntmps33 rfl ?_
  refine wc_seq ?_
  refine wc_region ?_
  refine wl_assign rfl rfl ?_
  refine wl_assign rfl rfl ?_
  refine wl_nil ?_
  refine qs_seq ?_
  refine wc_seq ?_
  refine wc_region ?_
  refine wl_move rfl rfl ?_
  refine wl_move rfl rfl ?_
  have hC1 := hS.split [0] [true, false] rfl; dsimp only [selF, pickA, nthA, List.cons_append, List.nil_append] at hC1
  refine wl_call cal_13 rfl (qGetP_sp hC1 hn id (by omega) (hP.len _)) rfl ?_
  rintro e w1 ⟨_, rfl, rfl, hS1⟩; refine ⟨_, rfl, ?_⟩
  replace hS1 := hS1.join rfl; dsimp only [List.dropLast, List.cons_append, List.nil_append] at hS1; clear hC1
  refine wl_move rfl rfl ?_
  refine wl_extract rfl rfl rfl ?_
  refine wl_extract rfl rfl rfl ?_
  refine wl_alloc hS1 zr_39 rfl rfl ?_
  intro b2 w2 hS2
  clear hS1
  first | (refine wl_storeA hS2 rfl rfl sz_39 rfl (by first | rfl | (simp [allOne, Value.oneCell']; done) | assumption | exact hone) (i := 0) rfl (by first | decide | exact Nat.le_of_ble_eq_true rfl | (simp; done) | omega) ?_)
  intro w3 hS4; dsimp only [List.set] at hS4
  clear hS2
  refine wl_assign rfl rfl ?_
  refine wl_nil ?_
  refine qs_seq ?_
  refine wc_sub (L' := [(9, _), (8, _), (7, _), (6, _), (0, _), (1, _), (2, _)]) (.cons rfl (.cons rfl (.cons rfl (.cons rfl (.cons rfl (.cons rfl (.cons rfl .nil))))))) ?_
  refine wc_seq ?_
  refine wc_seq ?_
  refine wc_region ?_
  refine wl_move rfl rfl ?_
  refine wl_not rfl rfl ?_
  refine wl_move rfl rfl ?_
  refine wl_split 20 rfl (fun h5 => ?_) (fun h5 => ?_)
  · skip
    have hx := gB_none (W := W) (id := id) (by simpa using h5)
    refine wl_unwanted rfl rfl h5 rfl ?_
    refine wl_unwanted rfl rfl h5 rfl ?_
    refine wl_unwanted rfl rfl h5 rfl ?_
    refine wl_pickT rfl h5 rfl rfl ?_
    refine wl_nil ?_
    refine qs_seq ?_
    refine wc_sub (L' := [(24, _), (8, _), (7, _), (6, _), (0, _), (1, _), (2, _)]) (.cons rfl (.cons rfl (.cons rfl (.cons rfl (.cons rfl (.cons rfl (.cons rfl .nil))))))) ?_
    refine wc_condT rfl ?_
    refine wc_seq ?_
    refine wc_region ?_
    refine wl_assign rfl rfl ?_
    refine wl_assign rfl rfl ?_
    refine wl_nil ?_
    refine qs_seq ?_
    refine wc_ret ?_
    refine qs_then_ret ?_
    refine fin2 (.inr rfl) rfl rfl rfl ?_
    exact ⟨_, rfl, by unfold writeV; rw [hx], by unfold writeP; rw [hx]; exact refP_up (by omega) (hS4.pick [1, 2] rfl)⟩
  · skip
    obtain ⟨x, hx, hxd⟩ := gB_some (W := W) (id := id) (by simpa using h5)
    rw [hxd] at hS4
    have ho := gP_ok hx
    have hod := ho.d
    have hor := ho.r
    have how := ho.w
    refine wl_guard rfl rfl h5 ?_
    refine wl_fieldAddr rfl fo_39_1 rfl ?_
    refine wl_guard rfl rfl h5 ?_
    refine wl_load rfl ag_3 (by first | assumption | exact hS4.cell 0 rfl rfl) rfl ?_
    refine wl_guard rfl rfl h5 ?_
    refine wl_eql rfl rfl rfl ?_
    refine wl_pickF rfl h5 rfl rfl ?_
    refine wl_nil ?_
    refine qs_seq ?_
    refine wc_sub (L' := [(24, _), (8, _), (7, _), (6, _), (0, _), (1, _), (2, _)]) (.cons rfl (.cons rfl (.cons rfl (.cons rfl (.cons rfl (.cons rfl (.cons rfl .nil))))))) ?_
    refine wc_condD rfl (fun h6 => ?_) (fun h6 => ?_)
    · skip
      refine wc_seq ?_
      refine wc_region ?_
      refine wl_assign rfl rfl ?_
      refine wl_assign rfl rfl ?_
      refine wl_nil ?_
      refine qs_seq ?_
      refine wc_ret ?_
      refine qs_then_ret ?_
      refine fin2 (.inr rfl) rfl rfl rfl ?_
      exact ⟨_, rfl, by unfold writeV; rw [hx]; dsimp only; rw [if_pos (by assumption)], by unfold writeP; rw [hx]; dsimp only; rw [if_pos (.inl (by assumption))]; exact refP_up (by omega) (hS4.pick [1, 2] rfl)⟩
    · skip
      refine wc_skip ?_
      refine qs_seq ?_
      refine wc_seq ?_
      refine wc_region ?_
      refine wl_fieldAddr rfl fo_39_0 rfl ?_
      refine wl_load rfl ag_9 (by first | assumption | exact hS4.cell 0 rfl rfl) rfl ?_
      refine wl_lenS Tryz.underlying9 rfl rfl ?_
      refine wl_sub' rfl rfl (by first | omega | (simp; omega)) (by first | omega | (simp; omega)) rfl ?_
      refine wl_assign rfl rfl ?_
      refine wl_nil ?_
      refine qs_seq ?_
      refine wc_sub (L' := [(10, _), (8, _), (7, _), (6, _), (0, _), (1, _), (2, _)]) (.cons rfl (.cons rfl (.cons rfl (.cons rfl (.cons rfl (.cons rfl (.cons rfl .nil))))))) ?_
      refine wc_seq ?_
      refine wc_seq ?_
      refine wc_region ?_
      refine wl_move rfl rfl ?_
      refine wl_eqlS rfl rfl rfl ?_
      refine wl_nil ?_
      refine qs_seq ?_
      refine wc_condD rfl (fun h7 => ?_) (fun h7 => ?_)
      · skip
        refine wc_seq ?_
        refine wc_region ?_
        refine wl_assign rfl rfl ?_
        refine wl_assign rfl rfl ?_
        refine wl_nil ?_
        refine qs_seq ?_
        refine wc_ret ?_
        refine qs_then_ret ?_
        refine fin2 (.inr rfl) rfl rfl rfl ?_
        exact ⟨_, rfl, by unfold writeV; rw [hx]; dsimp only; rw [if_neg (by assumption), if_pos (by assumption)], by unfold writeP; rw [hx]; dsimp only; rw [if_pos (.inr (.inl (by assumption)))]; exact refP_up (by omega) (hS4.pick [1, 2] rfl)⟩
      · skip
        refine wc_skip ?_
        refine qs_seq ?_
        refine wc_seq ?_
        refine wc_seq ?_
        refine wc_region ?_
        refine wl_move rfl rfl ?_
        refine wl_eql rfl rfl rfl ?_
        refine wl_move rfl rfl ?_
        refine wl_splitD 33 rfl (fun h8 => ?_) (fun h8 => ?_)
        · skip
          refine wl_unwanted rfl rfl (decide_eq_true h8) rfl ?_
          refine wl_unwanted rfl rfl (decide_eq_true h8) rfl ?_
          refine wl_unwanted rfl rfl (decide_eq_true h8) rfl ?_
          refine wl_unwanted rfl rfl (decide_eq_true h8) rfl ?_
          refine wl_unguarded rfl rfl rfl ?_
          refine wl_unguarded rfl rfl rfl ?_
          refine wl_unguarded rfl rfl rfl ?_
          refine wl_unguarded rfl rfl rfl ?_
          refine wl_unwanted rfl rfl (decide_eq_true h8) rfl ?_
          refine wl_pickT rfl (decide_eq_true h8) rfl rfl ?_
          refine wl_nil ?_
          refine qs_seq ?_
          refine wc_sub (L' := [(43, _), (10, _), (8, _), (7, _), (6, _), (0, _), (1, _), (2, _)]) (.cons rfl (.cons rfl (.cons rfl (.cons rfl (.cons rfl (.cons rfl (.cons rfl (.cons rfl .nil)))))))) ?_
          refine wc_condT rfl ?_
          refine wc_seq ?_
          refine wc_region ?_
          refine wl_assign rfl rfl ?_
          refine wl_assign rfl rfl ?_
          refine wl_nil ?_
          refine qs_seq ?_
          refine wc_ret ?_
          refine qs_then_ret ?_
          refine fin2 (.inr rfl) rfl rfl rfl ?_
          exact ⟨_, rfl, by unfold writeV; rw [hx]; dsimp only; rw [if_neg (by assumption), if_neg (by assumption), if_pos (by omega)], by unfold writeP; rw [hx]; dsimp only; rw [if_pos (.inr (.inr (by omega)))]; exact refP_up (by omega) (hS4.pick [1, 2] rfl)⟩
        · skip
          refine wl_guard rfl rfl (decide_eq_false h8) ?_
          refine wl_move rfl rfl ?_
          refine wl_guard rfl rfl (decide_eq_false h8) ?_
          refine wl_lenS Tryz.underlying9 rfl rfl ?_
          refine wl_guard rfl rfl (decide_eq_false h8) ?_
          refine wl_leq rfl rfl rfl ?_
          refine wl_guard rfl rfl (decide_eq_false h8) ?_
          refine wl_move rfl rfl ?_
          refine wl_splitD 37 rfl (fun h9 => ?_) (fun h9 => ?_)
          · skip
            refine wl_guard rfl rfl (decide_eq_true h9) ?_
            refine wl_move rfl rfl ?_
            refine wl_guard rfl rfl (decide_eq_true h9) ?_
            refine wl_lenS Tryz.underlying9 rfl rfl ?_
            refine wl_guard rfl rfl (decide_eq_true h9) ?_
            refine wl_move rfl rfl ?_
            refine wl_guard rfl rfl (decide_eq_true h9) ?_
            refine wl_gtr rfl rfl rfl ?_
            refine wl_guard rfl rfl (decide_eq_false h8) ?_
            refine wl_pickT rfl (decide_eq_true h9) rfl rfl ?_
            refine wl_pickF rfl (decide_eq_false h8) rfl rfl ?_
            refine wl_nil ?_
            refine qs_seq ?_
            refine wc_sub (L' := [(43, _), (10, _), (8, _), (7, _), (6, _), (0, _), (1, _), (2, _)]) (.cons rfl (.cons rfl (.cons rfl (.cons rfl (.cons rfl (.cons rfl (.cons rfl (.cons rfl .nil)))))))) ?_
            refine wc_condD rfl (fun h10 => ?_) (fun h10 => ?_)
            · skip
              refine wc_seq ?_
              refine wc_region ?_
              refine wl_assign rfl rfl ?_
              refine wl_assign rfl rfl ?_
              refine wl_nil ?_
              refine qs_seq ?_
              refine wc_ret ?_
              refine qs_then_ret ?_
              refine fin2 (.inr rfl) rfl rfl rfl ?_
              exact ⟨_, rfl, by unfold writeV; rw [hx]; dsimp only; rw [if_neg (by assumption), if_neg (by assumption), if_pos (by omega)], by unfold writeP; rw [hx]; dsimp only; rw [if_pos (.inr (.inr (by omega)))]; exact refP_up (by omega) (hS4.pick [1, 2] rfl)⟩
            · skip
              refine wc_skip ?_
              refine qs_seq ?_
              refine wc_seq ?_
              refine wc_region ?_
              refine wl_move rfl rfl ?_
              refine wl_lenS Tryz.underlying9 rfl rfl ?_
              refine wl_move rfl rfl ?_
              refine wl_minI rfl rfl rfl ?_
              refine wl_assign rfl rfl ?_
              refine wl_nil ?_
              refine qs_seq ?_
              refine wc_sub (L' := [(11, _), (8, _), (7, _), (6, _), (0, _), (1, _), (2, _)]) (.cons rfl (.cons rfl (.cons rfl (.cons rfl (.cons rfl (.cons rfl (.cons rfl .nil))))))) ?_
              refine wc_seq ?_
              have hS11 := hS4.drew
              refine wc_draw [0, 1, 2, 3, 4, 5, 6, 7] [7] mix (by kernel_rfl) ?_
              refine vc_p rfl rfl rfl (fun _ => (ev_fieldAddr rfl fo_39_0)) ?_
              refine vc_q rfl rfl rfl (ev_load rfl ag_9 (by first | assumption | exact hS11.cell 0 rfl rfl)) ?_
              refine vc_p rfl rfl rfl (fun _ => (ev_move rfl)) ?_
              refine vc_p rfl rfl rfl (fun _ => (ev_move rfl)) ?_
              refine vc_p rfl rfl rfl (fun _ => (ev_sliceS 0 (min (s.length : Int) (64 - x.d.length)).toNat Tryz.underlying9 rfl (bndN _) (bndS (min (s.length : Int) (64 - x.d.length)).toNat _ rfl (by omega)) (by first | omega | (simp; omega)) (by first | omega | (simp; omega)))) ?_
              rw [List.drop_zero]
              refine vc_p rfl rfl rfl (fun _ => (ev_concat rfl rfl (by first | omega | (simp; omega)))) ?_
              refine vc_p rfl rfl rfl (fun _ => (ev_fieldAddr rfl fo_39_0)) ?_
              refine vc_s rfl rfl rfl rfl rfl rfl ?_
              first | (refine wl_store hS11 rfl rfl sz_9 (by first | rfl | assumption) (i := 0) rfl (by first | decide | exact Nat.le_of_ble_eq_true rfl | (simp; done) | omega) ?_)
              intro w12 hS13; dsimp only [List.set] at hS13
              clear hS11
              refine vc_e0 (.skip (by kernel_rfl) .nil) ?_
              refine VC.nil ?_
              refine qs_seq ?_
              refine wc_sub (L' := [(11, _), (8, _), (7, _), (6, _), (0, _), (1, _)]) (.cons rfl (.cons rfl (.cons rfl (.cons rfl (.cons rfl (.cons rfl .nil)))))) ?_
              refine wc_seq ?_
              refine wc_region ?_
              refine wl_move rfl rfl ?_
              refine wl_move rfl rfl ?_
              refine wl_loadA rfl ag_39 sz_39 (by first | exact hS13.blk 0 rfl) (by first | decide | exact Nat.le_of_ble_eq_true rfl | (simp; done) | omega) rfl rfl ?_
              have hC14 := hS13.split [1] [false, true, false] rfl; dsimp only [selF, pickA, nthA, List.cons_append, List.nil_append] at hC14
              refine wl_call cal_55 rfl (qput_sp hC14 hn id (by omega) { x with d := x.d ++ s.take (min (s.length : Int) (64 - x.d.length)).toNat } (by simp only [List.length_drop, List.length_append, List.length_take]; omega) ho.ri ho.wi) rfl ?_
              rintro e w14 ⟨_, rfl, rfl, hS14⟩; refine ⟨_, rfl, ?_⟩
              replace hS14 := hS14.join rfl; dsimp only [List.dropLast, List.cons_append, List.nil_append] at hS14; clear hC14
              clear hS13
              refine wl_nil ?_
              refine qs_seq ?_
              refine wc_seq ?_
              refine wc_region ?_
              refine wl_move rfl rfl ?_
              refine wl_assign rfl rfl ?_
              refine wl_assign rfl rfl ?_
              refine wl_nil ?_
              refine qs_seq ?_
              refine wc_sub (L' := [(7, _), (6, _)]) (.cons rfl (.cons rfl .nil)) ?_
              refine wc_ret ?_
              refine fin2 (.inr rfl) rfl rfl rfl ?_
              exact ⟨_, rfl, by unfold writeV; rw [hx]; dsimp only; rw [if_neg (by assumption), if_neg (by assumption), if_neg (by omega)], by unfold writeP; rw [hx]; dsimp only; rw [if_neg (by rintro (q | q | q); contradiction; contradiction; omega)]; exact refP_up (by omega) (hS14.pick [0, 2] rfl)⟩
          · skip
            refine wl_unwanted rfl rfl (decide_eq_false h9) rfl ?_
            refine wl_unwanted rfl rfl (decide_eq_false h9) rfl ?_
            refine wl_unwanted rfl rfl (decide_eq_false h9) rfl ?_
            refine wl_unwanted rfl rfl (decide_eq_false h9) rfl ?_
            refine wl_guard rfl rfl (decide_eq_false h8) ?_
            refine wl_pickF rfl (decide_eq_false h9) rfl rfl ?_
            refine wl_pickF rfl (decide_eq_false h8) rfl rfl ?_
            refine wl_nil ?_
            refine qs_seq ?_
            refine wc_sub (L' := [(43, _), (10, _), (8, _), (7, _), (6, _), (0, _), (1, _), (2, _)]) (.cons rfl (.cons rfl (.cons rfl (.cons rfl (.cons rfl (.cons rfl (.cons rfl (.cons rfl .nil)))))))) ?_
            refine wc_condF rfl ?_
            refine wc_skip ?_
            refine qs_seq ?_
            refine wc_seq ?_
            refine wc_region ?_
            refine wl_move rfl rfl ?_
            refine wl_lenS Tryz.underlying9 rfl rfl ?_
            refine wl_move rfl rfl ?_
            refine wl_minI rfl rfl rfl ?_
            refine wl_assign rfl rfl ?_
            refine wl_nil ?_
            refine qs_seq ?_
            refine wc_sub (L' := [(11, _), (8, _), (7, _), (6, _), (0, _), (1, _), (2, _)]) (.cons rfl (.cons rfl (.cons rfl (.cons rfl (.cons rfl (.cons rfl (.cons rfl .nil))))))) ?_
            refine wc_seq ?_
            have hS15 := hS4.drew
            refine wc_draw [0, 1, 2, 3, 4, 5, 6, 7] [7] mix (by kernel_rfl) ?_
            refine vc_p rfl rfl rfl (fun _ => (ev_fieldAddr rfl fo_39_0)) ?_
            refine vc_q rfl rfl rfl (ev_load rfl ag_9 (by first | assumption | exact hS15.cell 0 rfl rfl)) ?_
            refine vc_p rfl rfl rfl (fun _ => (ev_move rfl)) ?_
            refine vc_p rfl rfl rfl (fun _ => (ev_move rfl)) ?_
            refine vc_p rfl rfl rfl (fun _ => (ev_sliceS 0 (min (s.length : Int) (64 - x.d.length)).toNat Tryz.underlying9 rfl (bndN _) (bndS (min (s.length : Int) (64 - x.d.length)).toNat _ rfl (by omega)) (by first | omega | (simp; omega)) (by first | omega | (simp; omega)))) ?_
            rw [List.drop_zero]
            refine vc_p rfl rfl rfl (fun _ => (ev_concat rfl rfl (by first | omega | (simp; omega)))) ?_
            refine vc_p rfl rfl rfl (fun _ => (ev_fieldAddr rfl fo_39_0)) ?_
            refine vc_s rfl rfl rfl rfl rfl rfl ?_
            first | (refine wl_store hS15 rfl rfl sz_9 (by first | rfl | assumption) (i := 0) rfl (by first | decide | exact Nat.le_of_ble_eq_true rfl | (simp; done) | omega) ?_)
            intro w16 hS17; dsimp only [List.set] at hS17
            clear hS15
            refine vc_e0 (.skip (by kernel_rfl) .nil) ?_
            refine VC.nil ?_
            refine qs_seq ?_
            refine wc_sub (L' := [(11, _), (8, _), (7, _), (6, _), (0, _), (1, _)]) (.cons rfl (.cons rfl (.cons rfl (.cons rfl (.cons rfl (.cons rfl .nil)))))) ?_
            refine wc_seq ?_
            refine wc_region ?_
            refine wl_move rfl rfl ?_
            refine wl_move rfl rfl ?_
            refine wl_loadA rfl ag_39 sz_39 (by first | exact hS17.blk 0 rfl) (by first | decide | exact Nat.le_of_ble_eq_true rfl | (simp; done) | omega) rfl rfl ?_
            have hC18 := hS17.split [1] [false, true, false] rfl; dsimp only [selF, pickA, nthA, List.cons_append, List.nil_append] at hC18
            refine wl_call cal_55 rfl (qput_sp hC18 hn id (by omega) { x with d := x.d ++ s.take (min (s.length : Int) (64 - x.d.length)).toNat } (by simp only [List.length_drop, List.length_append, List.length_take]; omega) ho.ri ho.wi) rfl ?_
            rintro e w18 ⟨_, rfl, rfl, hS18⟩; refine ⟨_, rfl, ?_⟩
            replace hS18 := hS18.join rfl; dsimp only [List.dropLast, List.cons_append, List.nil_append] at hS18; clear hC18
            clear hS17
            refine wl_nil ?_
            refine qs_seq ?_
            refine wc_seq ?_
            refine wc_region ?_
            refine wl_move rfl rfl ?_
            refine wl_assign rfl rfl ?_
            refine wl_assign rfl rfl ?_
            refine wl_nil ?_
            refine qs_seq ?_
            refine wc_sub (L' := [(7, _), (6, _)]) (.cons rfl (.cons rfl .nil)) ?_
            refine wc_ret ?_
            refine fin2 (.inr rfl) rfl rfl rfl ?_
            exact ⟨_, rfl, by unfold writeV; rw [hx]; dsimp only; rw [if_neg (by assumption), if_neg (by assumption), if_neg (by omega)], by unfold writeP; rw [hx]; dsimp only; rw [if_neg (by rintro (q | q | q); contradiction; contradiction; omega)]; exact refP_up (by omega) (hS18.pick [0, 2] rfl)⟩

set_option maxRecDepth 100000 in
theorem qCan_sp {w : World} {F : Th} {p m : Nat} {W : WS} (hS : Sat w [refP p W m, F]) (hn : m ≤ 1000) (hP : PI W m) (id : Bs) (hid : id.length ≤ 200) (wr : Bool) (n : Int) :
    Calls Tryz.prog 34 #[ptrV p 0, strV id, .bool wr, intV n] w (Ret fun v w' => v = .bool (canB W id wr n) ∧ Sat w' [refP p W m, F]) := by
  refine calls_enter Tryz.func34 rfl Tryz.ntmps34 rfl ?_
  refine wc_seq ?_
  refine wc_region ?_
  refine wl_assign rfl rfl ?_
  refine wl_nil ?_
  refine qs_seq ?_
  refine wc_seq ?_
  refine wc_region ?_
  refine wl_move rfl rfl ?_
  refine wl_move rfl rfl ?_
  have hC1 := hS.split [0] [true, false] rfl; dsimp only [selF, pickA, nthA, List.cons_append, List.nil_append] at hC1
  refine wl_call cal_13 rfl (qGetP_sp hC1 hn id (by omega) (hP.len _)) rfl ?_
  rintro e w1 ⟨_, rfl, rfl, hS1⟩; refine ⟨_, rfl, ?_⟩
  replace hS1 := hS1.join rfl; dsimp only [List.dropLast, List.cons_append, List.nil_append] at hS1; clear hC1
  refine wl_move rfl rfl ?_
  refine wl_extract rfl rfl rfl ?_
  refine wl_extract rfl rfl rfl ?_
  refine wl_alloc hS1 zr_39 rfl rfl ?_
  intro b2 w2 hS2
  clear hS1
  first | (refine wl_storeA hS2 rfl rfl sz_39 rfl (by first | rfl | (simp [allOne, Value.oneCell']; done) | assumption | exact hone) (i := 0) rfl (by first | decide | exact Nat.le_of_ble_eq_true rfl | (simp; done) | omega) ?_)
  intro w3 hS4; dsimp only [List.set] at hS4
  clear hS2
  refine wl_assign rfl rfl ?_
  refine wl_nil ?_
  refine qs_seq ?_
  refine wc_sub (L' := [(10, _), (9, _), (8, _), (2, _), (3, _)]) (.cons rfl (.cons rfl (.cons rfl (.cons rfl (.cons rfl .nil))))) ?_
  refine wc_seq ?_
  refine wc_seq ?_
  refine wc_region ?_
  refine wl_move rfl rfl ?_
  refine wl_not rfl rfl ?_
  refine wl_nil ?_
  refine qs_seq ?_
  refine wc_cond rfl (fun h5 => ?_) (fun h5 => ?_)
  · skip
    have hx := gB_none (W := W) (id := id) (by simpa using h5)
    refine wc_seq ?_
    refine wc_region ?_
    refine wl_assign rfl rfl ?_
    refine wl_nil ?_
    refine qs_seq ?_
    refine wc_ret ?_
    refine qs_then_ret ?_
    refine fin1 (.inr rfl) rfl rfl ?_
    exact ⟨_, rfl, by unfold canB; rw [hx], hS4.pick [1, 2] rfl⟩
  · skip
    obtain ⟨x, hx, hxd⟩ := gB_some (W := W) (id := id) (by simpa using h5)
    rw [hxd] at hS4
    have ho := gP_ok hx
    have hod := ho.d
    have hor := ho.r
    have how := ho.w
    refine wc_skip ?_
    refine qs_seq ?_
    refine wc_seq ?_
    refine wc_region ?_
    refine wl_fieldAddr rfl fo_39_0 rfl ?_
    refine wl_load rfl ag_9 (by first | assumption | exact hS4.cell 0 rfl rfl) rfl ?_
    refine wl_lenS Tryz.underlying9 rfl rfl ?_
    refine wl_sub' rfl rfl (by first | omega | (simp; omega)) (by first | omega | (simp; omega)) rfl ?_
    refine wl_assign rfl rfl ?_
    refine wl_nil ?_
    refine qs_seq ?_
    refine wc_sub (L' := [(11, _), (9, _), (8, _), (2, _), (3, _)]) (.cons rfl (.cons rfl (.cons rfl (.cons rfl (.cons rfl .nil))))) ?_
    refine wc_seq ?_
    refine wc_seq ?_
    refine wc_region ?_
    refine wl_move rfl rfl ?_
    refine wl_nil ?_
    refine qs_seq ?_
    refine wc_cond rfl (fun h6 => ?_) (fun h6 => ?_)
    · skip
      refine wc_seq ?_
      refine wc_region ?_
      refine wl_fieldAddr rfl fo_39_1 rfl ?_
      refine wl_load rfl ag_3 (by first | assumption | exact hS4.cell 0 rfl rfl) rfl ?_
      refine wl_eql rfl rfl rfl ?_
      refine wl_move rfl rfl ?_
      refine wl_splitD 28 rfl (fun h7 => ?_) (fun h7 => ?_)
      · skip
        refine wl_unwanted rfl rfl (decide_eq_true h7) rfl ?_
        refine wl_unwanted rfl rfl (decide_eq_true h7) rfl ?_
        refine wl_pickT rfl (decide_eq_true h7) rfl rfl ?_
        refine wl_move rfl rfl ?_
        refine wl_unwanted rfl rfl rfl rfl ?_
        refine wl_unwanted rfl rfl rfl rfl ?_
        refine wl_unwanted rfl rfl rfl rfl ?_
        refine wl_pickT rfl rfl rfl rfl ?_
        refine wl_move rfl rfl ?_
        refine wl_unwanted rfl rfl rfl rfl ?_
        refine wl_unwanted rfl rfl rfl rfl ?_
        refine wl_unwanted rfl rfl rfl rfl ?_
        refine wl_unguarded rfl rfl rfl ?_
        refine wl_unguarded rfl rfl rfl ?_
        refine wl_unwanted rfl rfl rfl rfl ?_
        refine wl_pickT rfl rfl rfl rfl ?_
        refine wl_assign rfl rfl ?_
        refine wl_nil ?_
        refine qs_seq ?_
        refine wc_sub (L' := [(8, _), (9, _), (3, _)]) (.cons rfl (.cons rfl (.cons rfl .nil))) ?_
        refine wc_ret ?_
        refine qs_then_ret ?_
        refine fin1 (.inr rfl) rfl rfl ?_
        refine ⟨_, rfl, ?_, hS4.pick [1, 2] rfl⟩
        unfold canB; rw [hx]; dsimp only; by_cases hn1 : n < 1
        · rw [if_pos hn1]; first | done | rfl | (exfalso; omega)
        · rw [if_neg hn1, if_pos (by assumption)]; exact congrArg Value.bool (by first | exact (decide_eq_true (by first | omega | (simp_all; done))).symm | exact (decide_eq_false (by first | omega | (simp_all; done))).symm | exact decide_eq_decide.2 (by first | omega | (simp_all; done)))
      · skip
        refine wl_guard rfl rfl (decide_eq_false h7) ?_
        refine wl_move rfl rfl ?_
        refine wl_guard rfl rfl (decide_eq_false h7) ?_
        refine wl_leq rfl rfl rfl ?_
        refine wl_pickF rfl (decide_eq_false h7) rfl rfl ?_
        refine wl_move rfl rfl ?_
        refine wl_splitD 32 rfl (fun h8 => ?_) (fun h8 => ?_)
        · skip
          refine wl_unwanted rfl rfl (decide_eq_true h8) rfl ?_
          refine wl_unwanted rfl rfl (decide_eq_true h8) rfl ?_
          refine wl_unwanted rfl rfl (decide_eq_true h8) rfl ?_
          refine wl_pickT rfl (decide_eq_true h8) rfl rfl ?_
          refine wl_move rfl rfl ?_
          refine wl_unwanted rfl rfl rfl rfl ?_
          refine wl_unwanted rfl rfl rfl rfl ?_
          refine wl_unwanted rfl rfl rfl rfl ?_
          refine wl_unguarded rfl rfl rfl ?_
          refine wl_unguarded rfl rfl rfl ?_
          refine wl_unwanted rfl rfl rfl rfl ?_
          refine wl_pickT rfl rfl rfl rfl ?_
          refine wl_assign rfl rfl ?_
          refine wl_nil ?_
          refine qs_seq ?_
          refine wc_sub (L' := [(8, _), (9, _), (3, _)]) (.cons rfl (.cons rfl (.cons rfl .nil))) ?_
          refine wc_ret ?_
          refine qs_then_ret ?_
          refine fin1 (.inr rfl) rfl rfl ?_
          refine ⟨_, rfl, ?_, hS4.pick [1, 2] rfl⟩
          unfold canB; rw [hx]; dsimp only; by_cases hn1 : n < 1
          · rw [if_pos hn1]; first | done | rfl | (exfalso; omega)
          · rw [if_neg hn1, if_pos (by assumption)]; exact congrArg Value.bool (by first | exact (decide_eq_true (by first | omega | (simp_all; done))).symm | exact (decide_eq_false (by first | omega | (simp_all; done))).symm | exact decide_eq_decide.2 (by first | omega | (simp_all; done)))
        · skip
          refine wl_guard rfl rfl (decide_eq_false h8) ?_
          refine wl_move rfl rfl ?_
          refine wl_guard rfl rfl (decide_eq_false h8) ?_
          refine wl_move rfl rfl ?_
          refine wl_guard rfl rfl (decide_eq_false h8) ?_
          refine wl_leq rfl rfl rfl ?_
          refine wl_pickF rfl (decide_eq_false h8) rfl rfl ?_
          refine wl_move rfl rfl ?_
          refine wl_splitD 37 rfl (fun h9 => ?_) (fun h9 => ?_)
          · skip
            refine wl_unwanted rfl rfl (decide_eq_true h9) rfl ?_
            refine wl_unwanted rfl rfl (decide_eq_true h9) rfl ?_
            refine wl_unwanted rfl rfl (decide_eq_true h9) rfl ?_
            refine wl_unguarded rfl rfl rfl ?_
            refine wl_unguarded rfl rfl rfl ?_
            refine wl_unwanted rfl rfl (decide_eq_true h9) rfl ?_
            refine wl_pickT rfl (decide_eq_true h9) rfl rfl ?_
            refine wl_assign rfl rfl ?_
            refine wl_nil ?_
            refine qs_seq ?_
            refine wc_sub (L' := [(8, _), (9, _), (3, _)]) (.cons rfl (.cons rfl (.cons rfl .nil))) ?_
            refine wc_ret ?_
            refine qs_then_ret ?_
            refine fin1 (.inr rfl) rfl rfl ?_
            refine ⟨_, rfl, ?_, hS4.pick [1, 2] rfl⟩
            unfold canB; rw [hx]; dsimp only; by_cases hn1 : n < 1
            · rw [if_pos hn1]; first | done | rfl | (exfalso; omega)
            · rw [if_neg hn1, if_pos (by assumption)]; exact congrArg Value.bool (by first | exact (decide_eq_true (by first | omega | (simp_all; done))).symm | exact (decide_eq_false (by first | omega | (simp_all; done))).symm | exact decide_eq_decide.2 (by first | omega | (simp_all; done)))
          · skip
            refine wl_guard rfl rfl (decide_eq_false h9) ?_
            refine wl_move rfl rfl ?_
            refine wl_guard rfl rfl (decide_eq_false h9) ?_
            refine wl_gtr rfl rfl rfl ?_
            refine wl_guard rfl rfl (decide_eq_false h9) ?_
            refine wl_move rfl rfl ?_
            refine wl_splitD 40 rfl (fun h10 => ?_) (fun h10 => ?_)
            · skip
              refine wl_guard rfl rfl (decide_eq_true h10) ?_
              refine wl_move rfl rfl ?_
              refine wl_guard rfl rfl (decide_eq_true h10) ?_
              refine wl_gtr rfl rfl rfl ?_
              refine wl_guard rfl rfl (decide_eq_false h9) ?_
              refine wl_pickT rfl (decide_eq_true h10) rfl rfl ?_
              refine wl_pickF rfl (decide_eq_false h9) rfl rfl ?_
              refine wl_assign rfl rfl ?_
              refine wl_nil ?_
              refine qs_seq ?_
              refine wc_sub (L' := [(8, _), (9, _), (3, _)]) (.cons rfl (.cons rfl (.cons rfl .nil))) ?_
              refine wc_ret ?_
              refine qs_then_ret ?_
              refine fin1 (.inr rfl) rfl rfl ?_
              refine ⟨_, rfl, ?_, hS4.pick [1, 2] rfl⟩
              unfold canB; rw [hx]; dsimp only; by_cases hn1 : n < 1
              · rw [if_pos hn1]; first | done | rfl | (exfalso; omega)
              · rw [if_neg hn1, if_pos (by assumption)]; exact congrArg Value.bool (by first | exact (decide_eq_true (by first | omega | (simp_all; done))).symm | exact (decide_eq_false (by first | omega | (simp_all; done))).symm | exact decide_eq_decide.2 (by first | omega | (simp_all; done)))
            · skip
              refine wl_unwanted rfl rfl (decide_eq_false h10) rfl ?_
              refine wl_unwanted rfl rfl (decide_eq_false h10) rfl ?_
              refine wl_guard rfl rfl (decide_eq_false h9) ?_
              refine wl_pickF rfl (decide_eq_false h10) rfl rfl ?_
              refine wl_pickF rfl (decide_eq_false h9) rfl rfl ?_
              refine wl_assign rfl rfl ?_
              refine wl_nil ?_
              refine qs_seq ?_
              refine wc_sub (L' := [(8, _), (9, _), (3, _)]) (.cons rfl (.cons rfl (.cons rfl .nil))) ?_
              refine wc_ret ?_
              refine qs_then_ret ?_
              refine fin1 (.inr rfl) rfl rfl ?_
              refine ⟨_, rfl, ?_, hS4.pick [1, 2] rfl⟩
              unfold canB; rw [hx]; dsimp only; by_cases hn1 : n < 1
              · rw [if_pos hn1]; first | done | rfl | (exfalso; omega)
              · rw [if_neg hn1, if_pos (by assumption)]; exact congrArg Value.bool (by first | exact (decide_eq_true (by first | omega | (simp_all; done))).symm | exact (decide_eq_false (by first | omega | (simp_all; done))).symm | exact decide_eq_decide.2 (by first | omega | (simp_all; done)))
    · skip
      refine wc_skip ?_
      refine qs_seq ?_
      refine wc_seq ?_
      refine wc_region ?_
      refine wl_move rfl rfl ?_
      refine wl_lss rfl rfl rfl ?_
      refine wl_move rfl rfl ?_
      refine wl_splitD 47 rfl (fun h11 => ?_) (fun h11 => ?_)
      · skip
        refine wl_unwanted rfl rfl (decide_eq_true h11) rfl ?_
        refine wl_unwanted rfl rfl (decide_eq_true h11) rfl ?_
        refine wl_unwanted rfl rfl (decide_eq_true h11) rfl ?_
        refine wl_pickT rfl (decide_eq_true h11) rfl rfl ?_
        refine wl_move rfl rfl ?_
        refine wl_unwanted rfl rfl rfl rfl ?_
        refine wl_unwanted rfl rfl rfl rfl ?_
        refine wl_unwanted rfl rfl rfl rfl ?_
        refine wl_pickT rfl rfl rfl rfl ?_
        refine wl_assign rfl rfl ?_
        refine wl_nil ?_
        refine qs_seq ?_
        refine wc_sub (L' := [(8, _)]) (.cons rfl .nil) ?_
        refine wc_ret ?_
        refine fin1 (.inr rfl) rfl rfl ?_
        refine ⟨_, rfl, ?_, hS4.pick [1, 2] rfl⟩
        unfold canB; rw [hx]; dsimp only; by_cases hn1 : n < 1
        · rw [if_pos hn1]; first | done | rfl | (exfalso; omega)
        · rw [if_neg hn1, if_neg (by simp_all)]; exact congrArg Value.bool (by first | exact (decide_eq_true (by first | omega | (simp_all; done))).symm | exact (decide_eq_false (by first | omega | (simp_all; done))).symm | exact decide_eq_decide.2 (by first | omega | (simp_all; done)))
      · skip
        refine wl_guard rfl rfl (decide_eq_false h11) ?_
        refine wl_fieldAddr rfl fo_39_0 rfl ?_
        refine wl_guard rfl rfl (decide_eq_false h11) ?_
        refine wl_load rfl ag_9 (by first | assumption | exact hS4.cell 0 rfl rfl) rfl ?_
        refine wl_guard rfl rfl (decide_eq_false h11) ?_
        refine wl_neqS rfl rfl rfl ?_
        refine wl_pickF rfl (decide_eq_false h11) rfl rfl ?_
        refine wl_move rfl rfl ?_
        refine wl_splitD 52 rfl (fun h12 => ?_) (fun h12 => ?_)
        · skip
          refine wl_unwanted rfl rfl (decide_eq_true h12) rfl ?_
          refine wl_unwanted rfl rfl (decide_eq_true h12) rfl ?_
          refine wl_unwanted rfl rfl (decide_eq_true h12) rfl ?_
          refine wl_pickT rfl (decide_eq_true h12) rfl rfl ?_
          refine wl_assign rfl rfl ?_
          refine wl_nil ?_
          refine qs_seq ?_
          refine wc_sub (L' := [(8, _)]) (.cons rfl .nil) ?_
          refine wc_ret ?_
          refine fin1 (.inr rfl) rfl rfl ?_
          refine ⟨_, rfl, ?_, hS4.pick [1, 2] rfl⟩
          unfold canB; rw [hx]; dsimp only; by_cases hn1 : n < 1
          · rw [if_pos hn1]; first | done | rfl | (exfalso; omega)
          · rw [if_neg hn1, if_neg (by simp_all)]; exact congrArg Value.bool (by first | exact (decide_eq_true (by first | omega | (simp_all; done))).symm | exact (decide_eq_false (by first | omega | (simp_all; done))).symm | exact decide_eq_decide.2 (by first | omega | (simp_all; done)))
        · skip
          refine wl_guard rfl rfl (decide_eq_false h12) ?_
          refine wl_fieldAddr rfl fo_39_2 rfl ?_
          refine wl_guard rfl rfl (decide_eq_false h12) ?_
          refine wl_load rfl ag_3 (by first | assumption | exact hS4.cell 0 rfl rfl) rfl ?_
          refine wl_guard rfl rfl (decide_eq_false h12) ?_
          refine wl_eql rfl rfl rfl ?_
          refine wl_pickF rfl (decide_eq_false h12) rfl rfl ?_
          refine wl_assign rfl rfl ?_
          refine wl_nil ?_
          refine qs_seq ?_
          refine wc_sub (L' := [(8, _)]) (.cons rfl .nil) ?_
          refine wc_ret ?_
          refine fin1 (.inr rfl) rfl rfl ?_
          refine ⟨_, rfl, ?_, hS4.pick [1, 2] rfl⟩
          unfold canB; rw [hx]; dsimp only; by_cases hn1 : n < 1
          · rw [if_pos hn1]; first | done | rfl | (exfalso; omega)
          · rw [if_neg hn1, if_neg (by simp_all)]; exact congrArg Value.bool (by first | exact (decide_eq_true (by first | omega | (simp_all; done))).symm | exact (decide_eq_false (by first | omega | (simp_all; done))).symm | exact decide_eq_decide.2 (by first | omega | (simp_all; done)))

set_option maxRecDepth 100000 in
theorem qdo_sp {w : World} {p : Nat} {W : WS} {n : Nat} {F : Th} (hS : Sat w [refP p W n, F]) (hP : PI W n) (hn : n ≤ 1000) (o : OpP) (ho : o.id.length ≤ 200 ∧ o.s.length ≤ 200) :
    Calls Tryz.prog 11 #[ptrV p 0, .agg #[intV o.k, strV o.id, .bool o.wr, intV o.n, strV o.s]] w (Ret fun v w' => v = .tuple #[strV (doV W o).1, intV (doV W o).2.1, intV (doV W o).2.2] ∧ Sat w' [refP p (doP W o) (n + 1), F]) := by
  refine calls_enter Tryz.func11 rfl Tryz.ntmps11 rfl ?_
  refine wc_seq ?_
  refine wc_region ?_
  refine wl_box hS rfl rfl rfl ?_
  intro b1 w1 hS1
  refine wl_assign rfl rfl ?_
  refine wl_assign rfl rfl ?_
  refine wl_assign rfl rfl ?_
  refine wl_nil ?_
  refine qs_seq ?_
  refine wc_seq ?_
  refine wc_seq ?_
  refine wc_region ?_
  refine wl_fieldAddr rfl fo_36_0 rfl ?_
  refine wl_load rfl ag_3 (by first | assumption | exact hS1.cell 0 rfl rfl) rfl ?_
  have hC2 := hS1.split [] [false, false, false] rfl; dsimp only [selF, pickA, nthA, List.cons_append, List.nil_append] at hC2
  refine wl_call cal_27 rfl (pick_sp hC2 o.k 6 (by omega)) rfl ?_
  rintro e w2 ⟨_, rfl, rfl, hS2⟩; refine ⟨_, rfl, ?_⟩
  replace hS2 := hS2.join rfl; dsimp only [List.dropLast, List.cons_append, List.nil_append] at hS2; clear hC2
  clear hS1
  refine wl_nil ?_
  refine qs_seq ?_
  refine wc_block ?_
  refine wc_seq ?_
  refine wc_region ?_
  refine wl_eql rfl rfl rfl ?_
  refine wl_assign rfl rfl ?_
  refine wl_nil ?_
  refine qs_seq ?_
  refine wc_sub (L' := [(14, _), (13, _), (6, _), (5, _), (4, _), (3, _), (0, _)]) (.cons rfl (.cons rfl (.cons rfl (.cons rfl (.cons rfl (.cons rfl (.cons rfl .nil))))))) ?_
  refine wc_condD rfl (fun h3 => ?_) (fun h3 => ?_)
  · skip
    refine wc_seq ?_
    refine wc_region ?_
    refine wl_move rfl rfl ?_
    refine wl_fieldAddr rfl fo_36_1 rfl ?_
    refine wl_load rfl ag_9 (by first | assumption | exact hS2.cell 0 rfl rfl) rfl ?_
    have hC4 := hS2.split [1] [false, true, false] rfl; dsimp only [selF, pickA, nthA, List.cons_append, List.nil_append] at hC4
    refine wl_call cal_29 rfl (qMake_sp hC4 hn hP o.id ho.1) rfl ?_
    rintro e w4 ⟨_, rfl, rfl, hS4⟩; refine ⟨_, rfl, ?_⟩
    replace hS4 := hS4.join rfl; dsimp only [List.dropLast, List.cons_append, List.nil_append] at hS4; clear hC4
    clear hS2
    refine wl_assign rfl rfl ?_
    refine wl_assign rfl rfl ?_
    refine wl_assign rfl rfl ?_
    refine wl_nil ?_
    refine qs_seq ?_
    refine wc_sub (L' := [(6, _), (5, _), (4, _), (3, _), (0, _)]) (.cons rfl (.cons rfl (.cons rfl (.cons rfl (.cons rfl .nil))))) ?_
    refine wc_ret ?_
    refine qs_block_ret ?_
    refine qs_then_ret ?_
    refine fin3 (.inr rfl) rfl rfl rfl rfl ?_
    exact ⟨_, rfl, by unfold doV; rw [if_pos (by assumption)], by unfold doP; rw [if_pos (by assumption)]; exact refP_up (by omega) (hS4.pick [0, 2] rfl)⟩
  · skip
    refine wc_seq ?_
    refine wc_region ?_
    refine wl_eql rfl rfl rfl ?_
    refine wl_assign rfl rfl ?_
    refine wl_nil ?_
    refine qs_seq ?_
    refine wc_condD rfl (fun h5 => ?_) (fun h5 => ?_)
    · skip
      refine wc_seq ?_
      refine wc_region ?_
      refine wl_move rfl rfl ?_
      refine wl_fieldAddr rfl fo_36_1 rfl ?_
      refine wl_load rfl ag_9 (by first | assumption | exact hS2.cell 0 rfl rfl) rfl ?_
      refine wl_fieldAddr rfl fo_36_2 rfl ?_
      refine wl_load rfl ag_4 (by first | assumption | exact hS2.cell 0 rfl rfl) rfl ?_
      have hC6 := hS2.split [1] [false, true, false] rfl; dsimp only [selF, pickA, nthA, List.cons_append, List.nil_append] at hC6
      refine wl_call cal_30 rfl (qOpen_sp hC6 hn hP o.id ho.1 o.wr) rfl ?_
      rintro e w6 ⟨_, rfl, rfl, hS6⟩; refine ⟨_, rfl, ?_⟩
      replace hS6 := hS6.join rfl; dsimp only [List.dropLast, List.cons_append, List.nil_append] at hS6; clear hC6
      clear hS2
      refine wl_assign rfl rfl ?_
      refine wl_assign rfl rfl ?_
      refine wl_assign rfl rfl ?_
      refine wl_nil ?_
      refine qs_seq ?_
      refine wc_sub (L' := [(6, _), (5, _), (4, _), (3, _), (0, _)]) (.cons rfl (.cons rfl (.cons rfl (.cons rfl (.cons rfl .nil))))) ?_
      refine wc_ret ?_
      refine qs_block_ret ?_
      refine qs_then_ret ?_
      refine fin3 (.inr rfl) rfl rfl rfl rfl ?_
      exact ⟨_, rfl, by unfold doV; rw [if_neg (by assumption), if_pos (by assumption)], by unfold doP; rw [if_neg (by assumption), if_pos (by assumption)]; exact refP_up (by omega) (hS6.pick [0, 2] rfl)⟩
    · skip
      refine wc_seq ?_
      refine wc_region ?_
      refine wl_eql rfl rfl rfl ?_
      refine wl_assign rfl rfl ?_
      refine wl_nil ?_
      refine qs_seq ?_
      refine wc_sub (L' := [(28, _), (13, _), (6, _), (5, _), (4, _), (3, _), (0, _)]) (.cons rfl (.cons rfl (.cons rfl (.cons rfl (.cons rfl (.cons rfl (.cons rfl .nil))))))) ?_
      refine wc_condD rfl (fun h7 => ?_) (fun h7 => ?_)
      · skip
        refine wc_seq ?_
        refine wc_region ?_
        refine wl_move rfl rfl ?_
        refine wl_fieldAddr rfl fo_36_1 rfl ?_
        refine wl_load rfl ag_9 (by first | assumption | exact hS2.cell 0 rfl rfl) rfl ?_
        refine wl_fieldAddr rfl fo_36_2 rfl ?_
        refine wl_load rfl ag_4 (by first | assumption | exact hS2.cell 0 rfl rfl) rfl ?_
        have hC8 := hS2.split [1] [false, true, false] rfl; dsimp only [selF, pickA, nthA, List.cons_append, List.nil_append] at hC8
        refine wl_call cal_31 rfl (qClose_sp hC8 hn hP o.id ho.1 o.wr) rfl ?_
        rintro e w8 ⟨_, rfl, rfl, hS8⟩; refine ⟨_, rfl, ?_⟩
        replace hS8 := hS8.join rfl; dsimp only [List.dropLast, List.cons_append, List.nil_append] at hS8; clear hC8
        clear hS2
        refine wl_assign rfl rfl ?_
        refine wl_assign rfl rfl ?_
        refine wl_assign rfl rfl ?_
        refine wl_nil ?_
        refine qs_seq ?_
        refine wc_sub (L' := [(6, _), (5, _), (4, _), (3, _), (0, _)]) (.cons rfl (.cons rfl (.cons rfl (.cons rfl (.cons rfl .nil))))) ?_
        refine wc_ret ?_
        refine qs_block_ret ?_
        refine qs_then_ret ?_
        refine fin3 (.inr rfl) rfl rfl rfl rfl ?_
        exact ⟨_, rfl, by unfold doV; rw [if_neg (by assumption), if_neg (by assumption), if_pos (by assumption)], by unfold doP; rw [if_neg (by assumption), if_neg (by assumption), if_pos (by assumption)]; exact refP_up (by omega) (hS8.pick [0, 2] rfl)⟩
      · skip
        refine wc_seq ?_
        refine wc_region ?_
        refine wl_eql rfl rfl rfl ?_
        refine wl_assign rfl rfl ?_
        refine wl_nil ?_
        refine qs_seq ?_
        refine wc_condD rfl (fun h9 => ?_) (fun h9 => ?_)
        · skip
          refine wc_seq ?_
          refine wc_region ?_
          refine wl_move rfl rfl ?_
          refine wl_fieldAddr rfl fo_36_1 rfl ?_
          refine wl_load rfl ag_9 (by first | assumption | exact hS2.cell 0 rfl rfl) rfl ?_
          refine wl_fieldAddr rfl fo_36_3 rfl ?_
          refine wl_load rfl ag_3 (by first | assumption | exact hS2.cell 0 rfl rfl) rfl ?_
          have hC10 := hS2.split [1] [false, true, false] rfl; dsimp only [selF, pickA, nthA, List.cons_append, List.nil_append] at hC10
          refine wl_call cal_32 rfl (qRead_sp hC10 hn hP o.id ho.1 o.n) rfl ?_
          rintro e w10 ⟨_, rfl, rfl, hS10⟩; refine ⟨_, rfl, ?_⟩
          replace hS10 := hS10.join rfl; dsimp only [List.dropLast, List.cons_append, List.nil_append] at hS10; clear hC10
          clear hS2
          refine wl_move rfl rfl ?_
          refine wl_extract rfl rfl rfl ?_
          refine wl_extract rfl rfl rfl ?_
          refine wl_assign rfl rfl ?_
          refine wl_assign rfl rfl ?_
          refine wl_nil ?_
          refine qs_seq ?_
          refine wc_sub (L' := [(8, _), (7, _), (6, _), (5, _), (4, _), (3, _), (0, _)]) (.cons rfl (.cons rfl (.cons rfl (.cons rfl (.cons rfl (.cons rfl (.cons rfl .nil))))))) ?_
          refine wc_seq ?_
          refine wc_region ?_
          refine wl_move rfl rfl ?_
          refine wl_move rfl rfl ?_
          refine wl_assign rfl rfl ?_
          refine wl_assign rfl rfl ?_
          refine wl_assign rfl rfl ?_
          refine wl_nil ?_
          refine qs_seq ?_
          refine wc_ret ?_
          refine qs_block_ret ?_
          refine qs_then_ret ?_
          refine fin3 (.inr rfl) rfl rfl rfl rfl ?_
          exact ⟨_, rfl, by unfold doV; rw [if_neg (by assumption), if_neg (by assumption), if_neg (by assumption), if_pos (by assumption)], by unfold doP; rw [if_neg (by assumption), if_neg (by assumption), if_neg (by assumption), if_pos (by assumption)]; exact refP_up (by omega) (hS10.pick [0, 2] rfl)⟩
        · skip
          refine wc_seq ?_
          refine wc_region ?_
          refine wl_eql rfl rfl rfl ?_
          refine wl_assign rfl rfl ?_
          refine wl_nil ?_
          refine qs_seq ?_
          refine wc_sub (L' := [(49, _), (6, _), (5, _), (4, _), (3, _), (0, _)]) (.cons rfl (.cons rfl (.cons rfl (.cons rfl (.cons rfl (.cons rfl .nil)))))) ?_
          refine wc_condD rfl (fun h11 => ?_) (fun h11 => ?_)
          · skip
            refine wc_seq ?_
            refine wc_region ?_
            refine wl_move rfl rfl ?_
            refine wl_fieldAddr rfl fo_36_1 rfl ?_
            refine wl_load rfl ag_9 (by first | assumption | exact hS2.cell 0 rfl rfl) rfl ?_
            refine wl_fieldAddr rfl fo_36_4 rfl ?_
            refine wl_load rfl ag_9 (by first | assumption | exact hS2.cell 0 rfl rfl) rfl ?_
            have hC12 := hS2.split [1] [false, true, false] rfl; dsimp only [selF, pickA, nthA, List.cons_append, List.nil_append] at hC12
            refine wl_call cal_33 rfl (qWrite_sp hC12 hn hP o.id ho.1 o.s (by omega)) rfl ?_
            rintro e w12 ⟨_, rfl, rfl, hS12⟩; refine ⟨_, rfl, ?_⟩
            replace hS12 := hS12.join rfl; dsimp only [List.dropLast, List.cons_append, List.nil_append] at hS12; clear hC12
            clear hS2
            refine wl_move rfl rfl ?_
            refine wl_extract rfl rfl rfl ?_
            refine wl_extract rfl rfl rfl ?_
            refine wl_assign rfl rfl ?_
            refine wl_assign rfl rfl ?_
            refine wl_nil ?_
            refine qs_seq ?_
            refine wc_sub (L' := [(10, _), (9, _), (6, _), (5, _), (4, _), (3, _), (0, _)]) (.cons rfl (.cons rfl (.cons rfl (.cons rfl (.cons rfl (.cons rfl (.cons rfl .nil))))))) ?_
            refine wc_seq ?_
            refine wc_region ?_
            refine wl_move rfl rfl ?_
            refine wl_move rfl rfl ?_
            refine wl_assign rfl rfl ?_
            refine wl_assign rfl rfl ?_
            refine wl_assign rfl rfl ?_
            refine wl_nil ?_
            refine qs_seq ?_
            refine wc_ret ?_
            refine qs_block_ret ?_
            refine qs_then_ret ?_
            refine fin3 (.inr rfl) rfl rfl rfl rfl ?_
            exact ⟨_, rfl, by unfold doV; rw [if_neg (by assumption), if_neg (by assumption), if_neg (by assumption), if_neg (by assumption), if_pos (by assumption)], by unfold doP; rw [if_neg (by assumption), if_neg (by assumption), if_neg (by assumption), if_neg (by assumption), if_pos (by assumption)]; exact refP_up (by omega) (hS12.pick [0, 2] rfl)⟩
          · skip
            refine wc_skip ?_
            refine qs_block_normal ?_
            refine qs_seq ?_
            refine wc_seq ?_
            refine wc_seq ?_
            refine wc_region ?_
            refine wl_move rfl rfl ?_
            refine wl_fieldAddr rfl fo_36_1 rfl ?_
            refine wl_load rfl ag_9 (by first | assumption | exact hS2.cell 0 rfl rfl) rfl ?_
            refine wl_fieldAddr rfl fo_36_2 rfl ?_
            refine wl_load rfl ag_4 (by first | assumption | exact hS2.cell 0 rfl rfl) rfl ?_
            refine wl_fieldAddr rfl fo_36_3 rfl ?_
            refine wl_load rfl ag_3 (by first | assumption | exact hS2.cell 0 rfl rfl) rfl ?_
            have hC13 := hS2.split [1] [false, true, false] rfl; dsimp only [selF, pickA, nthA, List.cons_append, List.nil_append] at hC13
            refine wl_call cal_34 rfl (qCan_sp hC13 hn hP o.id ho.1 o.wr o.n) rfl ?_
            rintro e w13 ⟨_, rfl, rfl, hS13⟩; refine ⟨_, rfl, ?_⟩
            replace hS13 := hS13.join rfl; dsimp only [List.dropLast, List.cons_append, List.nil_append] at hS13; clear hC13
            clear hS2
            refine wl_nil ?_
            refine qs_seq ?_
            refine wc_sub (L' := [(69, _), (6, _), (5, _), (4, _)]) (.cons rfl (.cons rfl (.cons rfl (.cons rfl .nil)))) ?_
            refine wc_cond rfl (fun h14 => ?_) (fun h14 => ?_)
            · skip
              refine wc_seq ?_
              refine wc_region ?_
              refine wl_assign rfl rfl ?_
              refine wl_assign rfl rfl ?_
              refine wl_assign rfl rfl ?_
              refine wl_nil ?_
              refine qs_seq ?_
              refine wc_ret ?_
              refine qs_then_ret ?_
              refine fin3 (.inr rfl) rfl rfl rfl rfl ?_
              exact ⟨_, rfl, by unfold doV; rw [if_neg (by assumption), if_neg (by assumption), if_neg (by assumption), if_neg (by assumption), if_neg (by assumption), if_pos (by assumption)], by unfold doP; rw [if_neg (by assumption), if_neg (by assumption), if_neg (by assumption), if_neg (by assumption), if_neg (by assumption)]; exact refP_up (by omega) (hS13.pick [0, 2] rfl)⟩
            · skip
              refine wc_skip ?_
              refine qs_seq ?_
              refine wc_seq ?_
              refine wc_region ?_
              refine wl_assign rfl rfl ?_
              refine wl_assign rfl rfl ?_
              refine wl_assign rfl rfl ?_
              refine wl_nil ?_
              refine qs_seq ?_
              refine wc_ret ?_
              refine fin3 (.inr rfl) rfl rfl rfl rfl ?_
              exact ⟨_, rfl, by unfold doV; rw [if_neg (by assumption), if_neg (by assumption), if_neg (by assumption), if_neg (by assumption), if_neg (by assumption), if_neg (by simp_all)], by unfold doP; rw [if_neg (by assumption), if_neg (by assumption), if_neg (by assumption), if_neg (by assumption), if_neg (by assumption)]; exact refP_up (by omega) (hS13.pick [0, 2] rfl)⟩

end Go.Proofs.YtgnhfhhmipcgcaaGreatDoor
