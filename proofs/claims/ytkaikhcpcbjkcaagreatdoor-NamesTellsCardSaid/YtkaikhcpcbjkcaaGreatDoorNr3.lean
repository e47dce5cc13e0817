/- the reference of names: Link, Unlink, Mkdir -/
import Derived.Test.YtkaikhcpcbjkcaaGreatDoorNr1
namespace Go.Proofs.YtkaikhcpcbjkcaaGreatDoor
open Go.RowKit M
set_option linter.unusedVariables false
theorem look_n {W : WS} {dir name : Bs} (h : nameB name = false) : lookV W dir name = ⟨[], zI, false, 16⟩ := by unfold lookV; rw [if_pos h]
theorem look_d {W : WS} {dir name : Bs} (h : nameB name = true) (hd : dirE W dir ≠ 0) : lookV W dir name = ⟨[], zI, false, dirE W dir⟩ := by unfold lookV; rw [if_neg (by simp [h]), if_pos hd]
theorem look_y {W : WS} {dir name : Bs} (h : nameB name = true) (hd : dirE W dir = 0) : lookV W dir name = ⟨W.cells (kE dir name), gI' W (W.cells (kE dir name)), bI W (W.cells (kE dir name)) && decide (W.cells (kE dir name) ≠ []), 0⟩ := by unfold lookV; rw [if_neg (by simp [h]), if_neg (by simp [hd])]
set_option maxRecDepth 100000 in
theorem rlink_sp {w : World} {F : Th} {p n : Nat} {W : WS} (hS : Sat w [refP p W n, F]) (hn : n ≤ 900) (hB : TB W) (dir name id : Bs) (hd : dir.length ≤ 900) (hnl : name.length ≤ 900) (hid : id.length ≤ 900) :
    Calls Tryz.prog 61 #[ptrV p 0, strV dir, strV name, strV id] w (Ret fun v w' => v = intV (linkE W dir name id) ∧ Sat w' [refP p (linkW W dir name id) (n + 2), F]) := by
 refine calls_enter Tryz.func61 rfl Tryz.ntmps61 rfl ?_
 refine wc_seq (wc_region (wl_assign rfl rfl (wl_nil (qs_seq (wc_seq (wc_seq (wc_region (wl_move rfl rfl ?_))))))))
 have hC1 := hS.split [] [false, false] rfl; dsimp only [selF, pickA, nthA, List.cons_append, List.nil_append] at hC1
 refine wl_call cal_38 rfl (rname_sp hC1 name (by omega)) rfl ?_
 rintro e w1 ⟨_, rfl, rfl, hS1⟩; refine ⟨_, rfl, ?_⟩
 replace hS1 := hS1.join rfl; dsimp only [List.dropLast, List.cons_append, List.nil_append] at hS1; clear hC1
 refine wl_not rfl rfl ?_
 refine wl_nil (qs_seq ?_)
 refine wc_cond rfl (fun h2 => ?_) (fun h2 => ?_)
 ·have hnb : nameB name = false := by simpa using h2
  refine wc_seq (wc_region (wl_assign rfl rfl (wl_nil (qs_seq (wc_ret (qs_then_ret ?_))))))
  refine fin1 (.inr rfl) rfl rfl ?_
  have hE : linkE W dir name id = 16 := by unfold linkE; rw [look_n hnb]; rw [if_pos (by decide)]
  exact ⟨_, rfl, by rw [hE], by unfold linkW; rw [if_neg (by rw [hE]; first | decide | assumption)]; exact refP_up (by omega) (hS1.pick [0, 1] rfl)⟩
 have hnb : nameB name = true := by simpa using h2
 refine wc_skip (qs_seq (wc_seq (wc_region (wl_move rfl rfl (wl_move rfl rfl ?_)))))
 have hC3 := hS1.split [0] [true, false] rfl; dsimp only [selF, pickA, nthA, List.cons_append, List.nil_append] at hC3
 refine wl_call cal_69 rfl (rdir_sp hC3 (by omega) hB dir (by omega)) rfl ?_
 rintro e w3 ⟨_, rfl, rfl, hS3⟩; refine ⟨_, rfl, ?_⟩
 replace hS3 := hS3.join rfl; dsimp only [List.dropLast, List.cons_append, List.nil_append] at hS3; clear hC3
 clear hS1
 refine wl_assign rfl rfl (wl_nil (qs_seq ?_))
 refine wc_sub (L' := [(9, _), (8, _), (0, _), (1, _), (2, _), (3, _)]) (.cons rfl (.cons rfl (.cons rfl (.cons rfl (.cons rfl (.cons rfl .nil)))))) ?_
 refine wc_seq (wc_seq (wc_region (wl_move rfl rfl ?_)))
 refine wl_neq rfl rfl rfl ?_
 refine wl_nil (qs_seq ?_)
 refine wc_condD rfl (fun h4 => ?_) (fun h4 => ?_)
 ·have hdd : dirE W dir ≠ 0 := h4
  refine wc_seq (wc_region (wl_move rfl rfl (wl_assign rfl rfl (wl_nil (qs_seq (wc_ret (qs_then_ret ?_)))))))
  refine fin1 (.inr rfl) rfl rfl ?_
  have hE : linkE W dir name id = dirE W dir := by unfold linkE; rw [look_d hnb hdd]; rw [if_pos hdd]
  exact ⟨_, rfl, by rw [hE], by unfold linkW; rw [if_neg (by rw [hE]; first | decide | assumption)]; exact refP_up (by omega) (hS3.pick [0, 1] rfl)⟩
 have hdd : dirE W dir = 0 := Decidable.not_not.1 h4
 refine wc_skip (qs_seq (wc_seq (wc_seq (wc_region (wl_move rfl rfl (wl_move rfl rfl (wl_move rfl rfl ?_)))))))
 have hC5 := hS3.split [] [false, false] rfl; dsimp only [selF, pickA, nthA, List.cons_append, List.nil_append] at hC5
 refine wl_call cal_73 rfl (rentry_sp hC5 dir name (by omega) (by omega)) rfl ?_
 rintro e w5 ⟨_, rfl, rfl, hS5⟩; refine ⟨_, rfl, ?_⟩
 replace hS5 := hS5.join rfl; dsimp only [List.dropLast, List.cons_append, List.nil_append] at hS5; clear hC5
 clear hS3
 have hC6 := hS5.split [0] [true, false] rfl; dsimp only [selF, pickA, nthA, List.cons_append, List.nil_append] at hC6
 refine wl_call cal_77 rfl (qGet hC6 (by omega) (kE dir name)) rfl ?_
 rintro e w6 ⟨_, rfl, rfl, hS6⟩; refine ⟨_, rfl, ?_⟩
 replace hS6 := hS6.join rfl; dsimp only [List.dropLast, List.cons_append, List.nil_append] at hS6; clear hC6
 clear hS5
 refine wl_neqS rfl rfl rfl ?_
 refine wl_nil (qs_seq ?_)
 refine wc_sub (L' := [(26, _), (8, _), (0, _), (1, _), (2, _), (3, _)]) (.cons rfl (.cons rfl (.cons rfl (.cons rfl (.cons rfl (.cons rfl .nil)))))) ?_
 refine wc_condD rfl (fun h7 => ?_) (fun h7 => ?_)
 ·refine wc_seq (wc_region (wl_assign rfl rfl (wl_nil (qs_seq (wc_ret (qs_then_ret ?_))))))
  refine fin1 (.inr rfl) rfl rfl ?_
  have hE : linkE W dir name id = 5 := by unfold linkE; rw [look_y hnb hdd]; rw [if_neg (fun q => q rfl), if_pos (by assumption)]
  exact ⟨_, rfl, by rw [hE], by unfold linkW; rw [if_neg (by rw [hE]; first | decide | assumption)]; exact refP_up (by omega) (hS6.pick [0, 1] rfl)⟩
 refine wc_skip (qs_seq (wc_seq (wc_region (wl_move rfl rfl (wl_move rfl rfl ?_)))))
 have hC8 := hS6.split [0] [true, false] rfl; dsimp only [selF, pickA, nthA, List.cons_append, List.nil_append] at hC8
 refine wl_call cal_31 rfl (rino_sp hC8 (by omega) id (by omega) (hB _)) rfl ?_
 rintro e w8 ⟨_, rfl, rfl, hS8⟩; refine ⟨_, rfl, ?_⟩
 replace hS8 := hS8.join rfl; dsimp only [List.dropLast, List.cons_append, List.nil_append] at hS8; clear hC8
 clear hS6
 refine wl_move rfl rfl (wl_extract rfl rfl rfl (wl_extract rfl rfl rfl ?_))
 refine wl_alloc hS8 zr_35 rfl rfl ?_
 intro b9 w9 hS9
 clear hS8
 first | (refine wl_storeA hS9 rfl rfl sz_35 rfl (by first | rfl | (simp [allOne, Value.oneCell']; done) | assumption | exact hone) (i := 0) rfl (by first | decide | exact Nat.le_of_ble_eq_true rfl | (simp; done) | omega) ?_)
 intro w10 hS11; dsimp only [List.set] at hS11
 clear hS9
 refine wl_assign rfl rfl (wl_nil (qs_seq ?_))
 refine wc_sub (L' := [(11, _), (10, _), (8, _), (0, _), (1, _), (2, _), (3, _)]) (.cons rfl (.cons rfl (.cons rfl (.cons rfl (.cons rfl (.cons rfl (.cons rfl .nil))))))) ?_
 refine wc_seq (wc_seq (wc_region (wl_move rfl rfl ?_)))
 refine wl_not rfl rfl ?_
 refine wl_nil (qs_seq ?_)
 refine wc_cond rfl (fun h12 => ?_) (fun h12 => ?_)
 ·have hb2 : bI W id = false := by simpa using h12
  refine wc_seq (wc_region (wl_assign rfl rfl (wl_nil (qs_seq (wc_ret (qs_then_ret ?_))))))
  refine fin1 (.inr rfl) rfl rfl ?_
  have hE : linkE W dir name id = 4 := by unfold linkE; rw [look_y hnb hdd]; rw [if_neg (fun q => q rfl), if_neg (by assumption), if_pos hb2]
  exact ⟨_, rfl, by rw [hE], by unfold linkW; rw [if_neg (by rw [hE]; first | decide | assumption)]; exact refP_up (by omega) (hS11.pick [1, 2] rfl)⟩
 have hb2 : bI W id = true := by simpa using h12
 refine wc_skip (qs_seq (wc_seq (wc_seq (wc_region ?_))))
 refine wl_fieldAddr rfl fo_35_0 rfl ?_
 refine wl_load rfl ag_3 (by first | assumption | exact hS11.cell 0 rfl rfl) rfl ?_
 refine wl_eql rfl rfl rfl ?_
 refine wl_nil (qs_seq ?_)
 refine wc_sub (L' := [(37, _), (10, _), (8, _), (0, _), (1, _), (2, _), (3, _)]) (.cons rfl (.cons rfl (.cons rfl (.cons rfl (.cons rfl (.cons rfl (.cons rfl .nil))))))) ?_
 refine wc_condD rfl (fun h13 => ?_) (fun h13 => ?_)
 ·refine wc_seq (wc_region (wl_assign rfl rfl (wl_nil (qs_seq (wc_ret (qs_then_ret ?_))))))
  refine fin1 (.inr rfl) rfl rfl ?_
  have hE : linkE W dir name id = 13 := by unfold linkE; rw [look_y hnb hdd]; rw [if_neg (fun q => q rfl), if_neg (by assumption), if_neg (by simp [hb2]), if_pos (by assumption)]
  exact ⟨_, rfl, by rw [hE], by unfold linkW; rw [if_neg (by rw [hE]; first | decide | assumption)]; exact refP_up (by omega) (hS11.pick [1, 2] rfl)⟩
 refine wc_skip (qs_seq (wc_seq (wc_region (wl_move rfl rfl (wl_move rfl rfl (wl_move rfl rfl ?_))))))
 have hC14 := hS11.split [] [false, false, false] rfl; dsimp only [selF, pickA, nthA, List.cons_append, List.nil_append] at hC14
 refine wl_call cal_73 rfl (rentry_sp hC14 dir name (by omega) (by omega)) rfl ?_
 rintro e w14 ⟨_, rfl, rfl, hS14⟩; refine ⟨_, rfl, ?_⟩
 replace hS14 := hS14.join rfl; dsimp only [List.dropLast, List.cons_append, List.nil_append] at hS14; clear hC14
 clear hS11
 refine wl_move rfl rfl ?_
 have hC15 := hS14.split [1] [false, true, false] rfl; dsimp only [selF, pickA, nthA, List.cons_append, List.nil_append] at hC15
 refine wl_call cal_24 rfl (qPut hC15 (by omega) (kE dir name) id) rfl ?_
 rintro e w15 ⟨_, rfl, rfl, hS15⟩; refine ⟨_, rfl, ?_⟩
 replace hS15 := hS15.join rfl; dsimp only [List.dropLast, List.cons_append, List.nil_append] at hS15; clear hC15
 clear hS14
 refine wl_nil (qs_seq ?_)
 refine wc_sub (L' := [(10, _), (8, _), (0, _), (3, _)]) (.cons rfl (.cons rfl (.cons rfl (.cons rfl .nil)))) ?_
 refine wc_seq (wc_region ?_)
 refine wl_fieldAddr rfl fo_35_2 rfl ?_
 refine wl_load rfl ag_3 (by first | assumption | exact hS15.cell 1 rfl rfl) rfl ?_
 refine wl_addW rfl rfl rfl rfl ?_
 refine wl_fieldAddr rfl fo_35_2 rfl ?_
 first | (refine wl_store hS15 rfl rfl sz_3 (by first | rfl | assumption) (i := 1) rfl (by first | decide | exact Nat.le_of_ble_eq_true rfl | (simp; done) | omega) ?_)
 intro w16 hS17; dsimp only [List.set] at hS17
 clear hS15
 refine wl_nil (qs_seq (wc_seq (wc_region (wl_move rfl rfl (wl_move rfl rfl ?_)))))
 refine wl_loadA rfl ag_35 sz_35 (by first | exact hS17.blk 1 rfl) (by first | decide | exact Nat.le_of_ble_eq_true rfl | (simp; done) | omega) rfl rfl ?_
 have hC18 := hS17.split [0] [true, false, false] rfl; dsimp only [selF, pickA, nthA, List.cons_append, List.nil_append] at hC18
 refine wl_call cal_60 rfl (rset_sp hC18 (by omega) id (by omega) (n1 := lnk (gI' W id) 1) (lnk_in (gI_in W id) 1)) rfl ?_
 rintro e w18 ⟨_, rfl, rfl, hS18⟩; refine ⟨_, rfl, ?_⟩
 replace hS18 := hS18.join rfl; dsimp only [List.dropLast, List.cons_append, List.nil_append] at hS18; clear hC18
 clear hS17
 refine wl_nil (qs_seq ?_)
 refine wc_sub (L' := [(8, _)]) (.cons rfl .nil) ?_
 refine wc_seq (wc_region (wl_assign rfl rfl (wl_nil (qs_seq (wc_ret ?_)))))
 refine fin1 (.inr rfl) rfl rfl ?_
 have hE : linkE W dir name id = 0 := by unfold linkE; rw [look_y hnb hdd]; rw [if_neg (fun q => q rfl), if_neg (by assumption), if_neg (by simp [hb2]), if_neg (by assumption)]
 exact ⟨_, rfl, by rw [hE], by unfold linkW; rw [if_pos hE]; exact hS18.pick [0, 2] rfl⟩
set_option maxRecDepth 100000 in
theorem runl_sp {w : World} {F : Th} {p n : Nat} {W : WS} (hS : Sat w [refP p W n, F]) (hn : n ≤ 900) (hB : TB W) (dir name : Bs) (hd : dir.length ≤ 900) (hnl : name.length ≤ 900) :
    Calls Tryz.prog 62 #[ptrV p 0, strV dir, strV name] w (Ret fun v w' => v = .tuple #[strV (unlS W dir name), intV (unlE W dir name)] ∧ Sat w' [refP p (unlW W dir name) (n + 2), F]) := by
 refine calls_enter Tryz.func62 rfl Tryz.ntmps62 rfl ?_
 refine wc_seq (wc_region (wl_assign rfl rfl (wl_assign rfl rfl (wl_nil (qs_seq (wc_seq (wc_seq (wc_region (wl_move rfl rfl ?_)))))))))
 have hC1 := hS.split [] [false, false] rfl; dsimp only [selF, pickA, nthA, List.cons_append, List.nil_append] at hC1
 refine wl_call cal_38 rfl (rname_sp hC1 name (by omega)) rfl ?_
 rintro e w1 ⟨_, rfl, rfl, hS1⟩; refine ⟨_, rfl, ?_⟩
 replace hS1 := hS1.join rfl; dsimp only [List.dropLast, List.cons_append, List.nil_append] at hS1; clear hC1
 refine wl_not rfl rfl ?_
 refine wl_nil (qs_seq ?_)
 refine wc_cond rfl (fun h2 => ?_) (fun h2 => ?_)
 ·have hnb : nameB name = false := by simpa using h2
  refine wc_seq (wc_region (wl_assign rfl rfl (wl_assign rfl rfl (wl_nil (qs_seq (wc_ret (qs_then_ret ?_)))))))
  refine fin2 (.inr rfl) rfl rfl rfl ?_
  have hE : unlE W dir name = 16 := by unfold unlE; rw [look_n hnb]; rw [if_pos (by decide)]
  exact ⟨_, rfl, by unfold unlS; rw [if_neg (by rw [hE]; first | decide | assumption), hE], by unfold unlW; rw [if_neg (by rw [hE]; first | decide | assumption)]; exact refP_up (by omega) (hS1.pick [0, 1] rfl)⟩
 have hnb : nameB name = true := by simpa using h2
 refine wc_skip (qs_seq (wc_seq (wc_region (wl_move rfl rfl (wl_move rfl rfl ?_)))))
 have hC3 := hS1.split [0] [true, false] rfl; dsimp only [selF, pickA, nthA, List.cons_append, List.nil_append] at hC3
 refine wl_call cal_69 rfl (rdir_sp hC3 (by omega) hB dir (by omega)) rfl ?_
 rintro e w3 ⟨_, rfl, rfl, hS3⟩; refine ⟨_, rfl, ?_⟩
 replace hS3 := hS3.join rfl; dsimp only [List.dropLast, List.cons_append, List.nil_append] at hS3; clear hC3
 clear hS1
 refine wl_assign rfl rfl (wl_nil (qs_seq ?_))
 refine wc_sub (L' := [(8, _), (7, _), (6, _), (0, _), (1, _), (2, _)]) (.cons rfl (.cons rfl (.cons rfl (.cons rfl (.cons rfl (.cons rfl .nil)))))) ?_
 refine wc_seq (wc_seq (wc_region (wl_move rfl rfl ?_)))
 refine wl_neq rfl rfl rfl ?_
 refine wl_nil (qs_seq ?_)
 refine wc_condD rfl (fun h4 => ?_) (fun h4 => ?_)
 ·have hdd : dirE W dir ≠ 0 := h4
  refine wc_seq (wc_region (wl_move rfl rfl (wl_assign rfl rfl (wl_assign rfl rfl (wl_nil (qs_seq (wc_ret (qs_then_ret ?_))))))))
  refine fin2 (.inr rfl) rfl rfl rfl ?_
  have hE : unlE W dir name = dirE W dir := by unfold unlE; rw [look_d hnb hdd]; rw [if_pos hdd]
  exact ⟨_, rfl, by unfold unlS; rw [if_neg (by rw [hE]; first | decide | assumption), hE], by unfold unlW; rw [if_neg (by rw [hE]; first | decide | assumption)]; exact refP_up (by omega) (hS3.pick [0, 1] rfl)⟩
 have hdd : dirE W dir = 0 := Decidable.not_not.1 h4
 refine wc_skip (qs_seq (wc_seq (wc_region (wl_move rfl rfl (wl_move rfl rfl (wl_move rfl rfl ?_))))))
 have hC5 := hS3.split [0] [true, false] rfl; dsimp only [selF, pickA, nthA, List.cons_append, List.nil_append] at hC5
 refine wl_call cal_98 rfl (rfound_sp hC5 (by omega) hB dir name (by omega) (by omega)) rfl ?_
 rintro e w5 ⟨_, rfl, rfl, hS5⟩; refine ⟨_, rfl, ?_⟩
 replace hS5 := hS5.join rfl; dsimp only [List.dropLast, List.cons_append, List.nil_append] at hS5; clear hC5
 clear hS3
 refine wl_move rfl rfl (wl_extract rfl rfl rfl (wl_extract rfl rfl rfl (wl_extract rfl rfl rfl ?_)))
 refine wl_alloc hS5 zr_35 rfl rfl ?_
 intro b6 w6 hS6
 clear hS5
 refine wl_assign rfl rfl ?_
 first | (refine wl_storeA hS6 rfl rfl sz_35 rfl (by first | rfl | (simp [allOne, Value.oneCell']; done) | assumption | exact hone) (i := 0) rfl (by first | decide | exact Nat.le_of_ble_eq_true rfl | (simp; done) | omega) ?_)
 intro w7 hS8; dsimp only [List.set] at hS8
 clear hS6
 refine wl_assign rfl rfl (wl_nil (qs_seq ?_))
 refine wc_sub (L' := [(11, _), (9, _), (10, _), (7, _), (6, _), (0, _), (1, _), (2, _)]) (.cons rfl (.cons rfl (.cons rfl (.cons rfl (.cons rfl (.cons rfl (.cons rfl (.cons rfl .nil)))))))) ?_
 refine wc_seq (wc_seq (wc_region (wl_move rfl rfl ?_)))
 refine wl_not rfl rfl ?_
 refine wl_nil (qs_seq ?_)
 refine wc_cond rfl (fun h9 => ?_) (fun h9 => ?_)
 ·have hok : (bI W (W.cells (kE dir name)) && decide ((W.cells (kE dir name)) ≠ [])) = false := by simpa only [Bool.not_eq_true'] using h9
  refine wc_seq (wc_region (wl_assign rfl rfl (wl_assign rfl rfl (wl_nil (qs_seq (wc_ret (qs_then_ret ?_)))))))
  refine fin2 (.inr rfl) rfl rfl rfl ?_
  have hE : unlE W dir name = 4 := by unfold unlE; rw [look_y hnb hdd]; rw [if_neg (fun q => q rfl), if_pos hok]
  exact ⟨_, rfl, by unfold unlS; rw [if_neg (by rw [hE]; first | decide | assumption), hE], by unfold unlW; rw [if_neg (by rw [hE]; first | decide | assumption)]; exact refP_up (by omega) (hS8.pick [1, 2] rfl)⟩
 have hok : (bI W (W.cells (kE dir name)) && decide ((W.cells (kE dir name)) ≠ [])) = true := by simpa only [Bool.not_eq_false'] using h9
 refine wc_skip (qs_seq (wc_seq (wc_seq (wc_region ?_))))
 refine wl_fieldAddr rfl fo_35_0 rfl ?_
 refine wl_load rfl ag_3 (by first | assumption | exact hS8.cell 0 rfl rfl) rfl ?_
 refine wl_eql rfl rfl rfl ?_
 refine wl_nil (qs_seq ?_)
 refine wc_sub (L' := [(33, _), (9, _), (10, _), (7, _), (6, _), (0, _), (1, _), (2, _)]) (.cons rfl (.cons rfl (.cons rfl (.cons rfl (.cons rfl (.cons rfl (.cons rfl (.cons rfl .nil)))))))) ?_
 refine wc_condD rfl (fun h10 => ?_) (fun h10 => ?_)
 ·refine wc_seq (wc_region (wl_assign rfl rfl (wl_assign rfl rfl (wl_nil (qs_seq (wc_ret (qs_then_ret ?_)))))))
  refine fin2 (.inr rfl) rfl rfl rfl ?_
  have hE : unlE W dir name = 13 := by unfold unlE; rw [look_y hnb hdd]; rw [if_neg (fun q => q rfl), if_neg (fun q => by have q2 := hok.symm.trans q; cases q2), if_pos (by assumption)]
  exact ⟨_, rfl, by unfold unlS; rw [if_neg (by rw [hE]; first | decide | assumption), hE], by unfold unlW; rw [if_neg (by rw [hE]; first | decide | assumption)]; exact refP_up (by omega) (hS8.pick [1, 2] rfl)⟩
 refine wc_skip (qs_seq (wc_seq (wc_region (wl_move rfl rfl (wl_move rfl rfl (wl_move rfl rfl ?_))))))
 have hC11 := hS8.split [] [false, false, false] rfl; dsimp only [selF, pickA, nthA, List.cons_append, List.nil_append] at hC11
 refine wl_call cal_73 rfl (rentry_sp hC11 dir name (by omega) (by omega)) rfl ?_
 rintro e w11 ⟨_, rfl, rfl, hS11⟩; refine ⟨_, rfl, ?_⟩
 replace hS11 := hS11.join rfl; dsimp only [List.dropLast, List.cons_append, List.nil_append] at hS11; clear hC11
 clear hS8
 have hC12 := hS11.split [1] [false, true, false] rfl; dsimp only [selF, pickA, nthA, List.cons_append, List.nil_append] at hC12
 refine wl_call cal_24 rfl (qPut hC12 (by omega) (kE dir name) []) rfl ?_
 rintro e w12 ⟨_, rfl, rfl, hS12⟩; refine ⟨_, rfl, ?_⟩
 replace hS12 := hS12.join rfl; dsimp only [List.dropLast, List.cons_append, List.nil_append] at hS12; clear hC12
 clear hS11
 refine wl_nil (qs_seq ?_)
 refine wc_sub (L' := [(9, _), (10, _), (7, _), (6, _), (0, _)]) (.cons rfl (.cons rfl (.cons rfl (.cons rfl (.cons rfl .nil))))) ?_
 refine wc_seq (wc_region ?_)
 refine wl_fieldAddr rfl fo_35_2 rfl ?_
 refine wl_load rfl ag_3 (by first | assumption | exact hS12.cell 1 rfl rfl) rfl ?_
 refine wl_subW rfl rfl rfl rfl ?_
 refine wl_fieldAddr rfl fo_35_2 rfl ?_
 first | (refine wl_store hS12 rfl rfl sz_3 (by first | rfl | assumption) (i := 1) rfl (by first | decide | exact Nat.le_of_ble_eq_true rfl | (simp; done) | omega) ?_)
 intro w13 hS14; dsimp only [List.set] at hS14
 clear hS12
 refine wl_nil (qs_seq (wc_seq (wc_region (wl_move rfl rfl (wl_move rfl rfl ?_)))))
 refine wl_loadA rfl ag_35 sz_35 (by first | exact hS14.blk 1 rfl) (by first | decide | exact Nat.le_of_ble_eq_true rfl | (simp; done) | omega) rfl rfl ?_
 have hC15 := hS14.split [0] [true, false, false] rfl; dsimp only [selF, pickA, nthA, List.cons_append, List.nil_append] at hC15
 refine wl_call cal_60 rfl (rset_sp hC15 (by omega) (W.cells (kE dir name)) (by have := hB (kE dir name); omega) (n1 := lnk (gI' W (W.cells (kE dir name))) (-1)) (lnk_in (gI_in W _) (-1))) rfl ?_
 rintro e w15 ⟨_, rfl, rfl, hS15⟩; refine ⟨_, rfl, ?_⟩
 replace hS15 := hS15.join rfl; dsimp only [List.dropLast, List.cons_append, List.nil_append] at hS15; clear hC15
 clear hS14
 refine wl_nil (qs_seq ?_)
 refine wc_sub (L' := [(9, _), (7, _), (6, _)]) (.cons rfl (.cons rfl (.cons rfl .nil))) ?_
 refine wc_seq (wc_region (wl_move rfl rfl (wl_assign rfl rfl (wl_assign rfl rfl (wl_nil (qs_seq (wc_ret ?_)))))))
 refine fin2 (.inr rfl) rfl rfl rfl ?_
 have hE : unlE W dir name = 0 := by unfold unlE; rw [look_y hnb hdd]; rw [if_neg (fun q => q rfl), if_neg (fun q => by have q2 := hok.symm.trans q; cases q2), if_neg (by assumption)]
 exact ⟨_, rfl, by unfold unlS; rw [if_pos hE, look_y hnb hdd, hE], by unfold unlW; rw [if_pos hE, look_y hnb hdd]; exact hS15.pick [0, 2] rfl⟩
set_option maxRecDepth 100000 in
set_option maxHeartbeats 800000 in
theorem rmkdir_sp {w : World} {F : Th} {p n : Nat} {W : WS} (hS : Sat w [refP p W n, F]) (hn : n ≤ 900) (hB : TB W) (dir name id : Bs) (hd : dir.length ≤ 900) (hnl : name.length ≤ 900) (hid : id.length ≤ 900) :
    Calls Tryz.prog 63 #[ptrV p 0, strV dir, strV name, strV id] w (Ret fun v w' => v = intV (mkdE W dir name id) ∧ Sat w' [refP p (mkdW W dir name id) (n + 3), F]) := by
 refine calls_enter Tryz.func63 rfl Tryz.ntmps63 rfl ?_
 refine wc_seq (wc_region (wl_assign rfl rfl (wl_nil (qs_seq (wc_seq (wc_seq (wc_region (wl_move rfl rfl ?_))))))))
 have hC1 := hS.split [] [false, false] rfl; dsimp only [selF, pickA, nthA, List.cons_append, List.nil_append] at hC1
 refine wl_call cal_38 rfl (rname_sp hC1 name (by omega)) rfl ?_
 rintro e w1 ⟨_, rfl, rfl, hS1⟩; refine ⟨_, rfl, ?_⟩
 replace hS1 := hS1.join rfl; dsimp only [List.dropLast, List.cons_append, List.nil_append] at hS1; clear hC1
 refine wl_not rfl rfl ?_
 refine wl_nil (qs_seq ?_)
 refine wc_cond rfl (fun h2 => ?_) (fun h2 => ?_)
 ·have hnb : nameB name = false := by simpa using h2
  refine wc_seq (wc_region (wl_assign rfl rfl (wl_nil (qs_seq (wc_ret (qs_then_ret ?_))))))
  refine fin1 (.inr rfl) rfl rfl ?_
  have hE : mkdE W dir name id = 16 := by unfold mkdE; rw [look_n hnb]; rw [if_pos (by decide)]
  exact ⟨_, rfl, by rw [hE], by unfold mkdW; rw [if_neg (by rw [hE]; first | decide | assumption)]; exact refP_up (by omega) (hS1.pick [0, 1] rfl)⟩
 have hnb : nameB name = true := by simpa using h2
 refine wc_skip (qs_seq (wc_seq (wc_region (wl_move rfl rfl (wl_move rfl rfl ?_)))))
 have hC3 := hS1.split [0] [true, false] rfl; dsimp only [selF, pickA, nthA, List.cons_append, List.nil_append] at hC3
 refine wl_call cal_69 rfl (rdir_sp hC3 (by omega) hB dir (by omega)) rfl ?_
 rintro e w3 ⟨_, rfl, rfl, hS3⟩; refine ⟨_, rfl, ?_⟩
 replace hS3 := hS3.join rfl; dsimp only [List.dropLast, List.cons_append, List.nil_append] at hS3; clear hC3
 clear hS1
 refine wl_assign rfl rfl (wl_nil (qs_seq ?_))
 refine wc_sub (L' := [(9, _), (8, _), (0, _), (1, _), (2, _), (3, _)]) (.cons rfl (.cons rfl (.cons rfl (.cons rfl (.cons rfl (.cons rfl .nil)))))) ?_
 refine wc_seq (wc_seq (wc_region (wl_move rfl rfl ?_)))
 refine wl_neq rfl rfl rfl ?_
 refine wl_nil (qs_seq ?_)
 refine wc_condD rfl (fun h4 => ?_) (fun h4 => ?_)
 ·have hdd : dirE W dir ≠ 0 := h4
  refine wc_seq (wc_region (wl_move rfl rfl (wl_assign rfl rfl (wl_nil (qs_seq (wc_ret (qs_then_ret ?_)))))))
  refine fin1 (.inr rfl) rfl rfl ?_
  have hE : mkdE W dir name id = dirE W dir := by unfold mkdE; rw [look_d hnb hdd]; rw [if_pos hdd]
  exact ⟨_, rfl, by rw [hE], by unfold mkdW; rw [if_neg (by rw [hE]; first | decide | assumption)]; exact refP_up (by omega) (hS3.pick [0, 1] rfl)⟩
 have hdd : dirE W dir = 0 := Decidable.not_not.1 h4
 refine wc_skip (qs_seq (wc_seq (wc_seq (wc_region (wl_move rfl rfl (wl_move rfl rfl (wl_move rfl rfl ?_)))))))
 have hC5 := hS3.split [] [false, false] rfl; dsimp only [selF, pickA, nthA, List.cons_append, List.nil_append] at hC5
 refine wl_call cal_73 rfl (rentry_sp hC5 dir name (by omega) (by omega)) rfl ?_
 rintro e w5 ⟨_, rfl, rfl, hS5⟩; refine ⟨_, rfl, ?_⟩
 replace hS5 := hS5.join rfl; dsimp only [List.dropLast, List.cons_append, List.nil_append] at hS5; clear hC5
 clear hS3
 have hC6 := hS5.split [0] [true, false] rfl; dsimp only [selF, pickA, nthA, List.cons_append, List.nil_append] at hC6
 refine wl_call cal_77 rfl (qGet hC6 (by omega) (kE dir name)) rfl ?_
 rintro e w6 ⟨_, rfl, rfl, hS6⟩; refine ⟨_, rfl, ?_⟩
 replace hS6 := hS6.join rfl; dsimp only [List.dropLast, List.cons_append, List.nil_append] at hS6; clear hC6
 clear hS5
 refine wl_neqS rfl rfl rfl ?_
 refine wl_nil (qs_seq ?_)
 refine wc_sub (L' := [(26, _), (8, _), (0, _), (1, _), (2, _), (3, _)]) (.cons rfl (.cons rfl (.cons rfl (.cons rfl (.cons rfl (.cons rfl .nil)))))) ?_
 refine wc_condD rfl (fun h7 => ?_) (fun h7 => ?_)
 ·refine wc_seq (wc_region (wl_assign rfl rfl (wl_nil (qs_seq (wc_ret (qs_then_ret ?_))))))
  refine fin1 (.inr rfl) rfl rfl ?_
  have hE : mkdE W dir name id = 5 := by unfold mkdE; rw [look_y hnb hdd]; rw [if_neg (fun q => q rfl), if_pos (by assumption)]
  exact ⟨_, rfl, by rw [hE], by unfold mkdW; rw [if_neg (by rw [hE]; first | decide | assumption)]; exact refP_up (by omega) (hS6.pick [0, 1] rfl)⟩
 refine wc_skip (qs_seq (wc_seq (wc_seq (wc_region (wl_move rfl rfl ?_)))))
 refine wl_eqlS rfl rfl rfl ?_
 refine wl_move rfl rfl ?_
 refine wl_splitD 29 rfl (fun h8 => ?_) (fun h8 => ?_)
 ·have hc2 : id = [] ∨ (47 : UInt8) ∈ id := .inl h8
  refine wl_unwanted rfl rfl (decide_eq_true h8) rfl ?_
  refine wl_unwanted rfl rfl (decide_eq_true h8) rfl ?_
  refine wl_pickT rfl (decide_eq_true h8) rfl rfl ?_
  refine wl_nil (qs_seq ?_)
  refine wc_sub (L' := [(32, _), (8, _), (0, _), (1, _), (2, _), (3, _)]) (.cons rfl (.cons rfl (.cons rfl (.cons rfl (.cons rfl (.cons rfl .nil)))))) ?_
  refine wc_condT rfl ?_
  refine wc_seq (wc_region (wl_assign rfl rfl (wl_nil (qs_seq (wc_ret (qs_then_ret ?_))))))
  refine fin1 (.inr rfl) rfl rfl ?_
  have hE : mkdE W dir name id = 1 := by unfold mkdE; rw [look_y hnb hdd]; rw [if_neg (fun q => q rfl), if_neg (by assumption), if_pos hc2]
  exact ⟨_, rfl, by rw [hE], by unfold mkdW; rw [if_neg (by rw [hE]; first | decide | assumption)]; exact refP_up (by omega) (hS6.pick [0, 1] rfl)⟩
 refine wl_guard rfl rfl (decide_eq_false h8) ?_
 refine wl_move rfl rfl ?_
 refine wl_guard rfl rfl (decide_eq_false h8) ?_
 have hC9 := hS6.split [] [false, false] rfl; dsimp only [selF, pickA, nthA, List.cons_append, List.nil_append] at hC9
 refine wl_call cal_81 rfl (rslash_sp hC9 id (by omega)) rfl ?_
 rintro e w9 ⟨_, rfl, rfl, hS9⟩; refine ⟨_, rfl, ?_⟩
 replace hS9 := hS9.join rfl; dsimp only [List.dropLast, List.cons_append, List.nil_append] at hS9; clear hC9
 clear hS6
 refine wl_pickF rfl (decide_eq_false h8) rfl rfl ?_
 refine wl_nil (qs_seq ?_)
 refine wc_sub (L' := [(32, _), (8, _), (0, _), (1, _), (2, _), (3, _)]) (.cons rfl (.cons rfl (.cons rfl (.cons rfl (.cons rfl (.cons rfl .nil)))))) ?_
 refine wc_cond rfl (fun h10 => ?_) (fun h10 => ?_)
 ·have hc2 : id = [] ∨ (47 : UInt8) ∈ id := .inr (by simpa using h10)
  refine wc_seq (wc_region (wl_assign rfl rfl (wl_nil (qs_seq (wc_ret (qs_then_ret ?_))))))
  refine fin1 (.inr rfl) rfl rfl ?_
  have hE : mkdE W dir name id = 1 := by unfold mkdE; rw [look_y hnb hdd]; rw [if_neg (fun q => q rfl), if_neg (by assumption), if_pos hc2]
  exact ⟨_, rfl, by rw [hE], by unfold mkdW; rw [if_neg (by rw [hE]; first | decide | assumption)]; exact refP_up (by omega) (hS9.pick [0, 1] rfl)⟩
 have hc2 : ¬ (id = [] ∨ (47 : UInt8) ∈ id) := by rintro (q | q); (exact absurd q (by assumption)); exact absurd q (by simpa using h10)
 refine wc_skip (qs_seq (wc_seq (wc_region (wl_move rfl rfl (wl_move rfl rfl ?_)))))
 have hC11 := hS9.split [0] [true, false] rfl; dsimp only [selF, pickA, nthA, List.cons_append, List.nil_append] at hC11
 refine wl_call cal_31 rfl (rino_sp hC11 (by omega) id (by omega) (hB _)) rfl ?_
 rintro e w11 ⟨_, rfl, rfl, hS11⟩; refine ⟨_, rfl, ?_⟩
 replace hS11 := hS11.join rfl; dsimp only [List.dropLast, List.cons_append, List.nil_append] at hS11; clear hC11
 clear hS9
 refine wl_move rfl rfl (wl_extract rfl rfl rfl (wl_extract rfl rfl rfl ?_))
 refine wl_alloc hS11 zr_35 rfl rfl ?_
 intro b12 w12 hS12
 clear hS11
 first | (refine wl_storeA hS12 rfl rfl sz_35 rfl (by first | rfl | (simp [allOne, Value.oneCell']; done) | assumption | exact hone) (i := 0) rfl (by first | decide | exact Nat.le_of_ble_eq_true rfl | (simp; done) | omega) ?_)
 intro w13 hS14; dsimp only [List.set] at hS14
 clear hS12
 refine wl_assign rfl rfl (wl_nil (qs_seq ?_))
 refine wc_sub (L' := [(11, _), (8, _), (0, _), (1, _), (2, _), (3, _)]) (.cons rfl (.cons rfl (.cons rfl (.cons rfl (.cons rfl (.cons rfl .nil)))))) ?_
 refine wc_seq (wc_seq (wc_region (wl_move rfl rfl (wl_nil (qs_seq ?_)))))
 refine wc_cond rfl (fun h15 => ?_) (fun h15 => ?_)
 ·have hb3 : bI W id = true := h15
  refine wc_seq (wc_region (wl_assign rfl rfl (wl_nil (qs_seq (wc_ret (qs_then_ret ?_))))))
  refine fin1 (.inr rfl) rfl rfl ?_
  have hE : mkdE W dir name id = 5 := by unfold mkdE; rw [look_y hnb hdd]; rw [if_neg (fun q => q rfl), if_neg (by assumption), if_neg hc2, if_pos hb3]
  exact ⟨_, rfl, by rw [hE], by unfold mkdW; rw [if_neg (by rw [hE]; first | decide | assumption)]; exact refP_up (by omega) (hS14.pick [1, 2] rfl)⟩
 have hb3 : bI W id = false := by simpa using h15
 refine wc_skip (qs_seq (wc_seq (wc_seq (wc_region (wl_move rfl rfl (wl_move rfl rfl ?_))))))
 have hC16 := hS14.split [1] [false, true, false] rfl; dsimp only [selF, pickA, nthA, List.cons_append, List.nil_append] at hC16
 refine wl_call cal_37 rfl (rdepth_sp hC16 (by omega) hB dir (by omega)) rfl ?_
 rintro e w16 ⟨_, rfl, rfl, hS16⟩; refine ⟨_, rfl, ?_⟩
 replace hS16 := hS16.join rfl; dsimp only [List.dropLast, List.cons_append, List.nil_append] at hS16; clear hC16
 clear hS14
 refine wl_geq rfl rfl rfl ?_
 refine wl_move rfl rfl ?_
 refine wl_splitD 44 rfl (fun h17 => ?_) (fun h17 => ?_)
 ·have hc4 : 8 ≤ depF W 100 dir ∨ 64 ≤ cntK W [105, 47] := .inl (by omega)
  refine wl_unwanted rfl rfl (decide_eq_true h17) rfl ?_
  refine wl_unwanted rfl rfl (decide_eq_true h17) rfl ?_
  refine wl_unwanted rfl rfl (decide_eq_true h17) rfl ?_
  refine wl_pickT rfl (decide_eq_true h17) rfl rfl ?_
  refine wl_nil (qs_seq ?_)
  refine wc_sub (L' := [(48, _), (8, _), (0, _), (1, _), (2, _), (3, _)]) (.cons rfl (.cons rfl (.cons rfl (.cons rfl (.cons rfl (.cons rfl .nil)))))) ?_
  refine wc_condT rfl ?_
  refine wc_seq (wc_region (wl_assign rfl rfl (wl_nil (qs_seq (wc_ret (qs_then_ret ?_))))))
  refine fin1 (.inr rfl) rfl rfl ?_
  have hE : mkdE W dir name id = 6 := by unfold mkdE; rw [look_y hnb hdd]; rw [if_neg (fun q => q rfl), if_neg (by assumption), if_neg hc2, if_neg (by simp [hb3]), if_pos hc4]
  exact ⟨_, rfl, by rw [hE], by unfold mkdW; rw [if_neg (by rw [hE]; first | decide | assumption)]; exact refP_up (by omega) (hS16.pick [0, 2] rfl)⟩
 refine wl_guard rfl rfl (decide_eq_false h17) ?_
 refine wl_move rfl rfl ?_
 refine wl_guard rfl rfl (decide_eq_false h17) ?_
 have hC18 := hS16.split [0] [true, false, false] rfl; dsimp only [selF, pickA, nthA, List.cons_append, List.nil_append] at hC18
 refine wl_call cal_35 rfl (rinodes_sp hC18 (by omega)) rfl ?_
 rintro e w18 ⟨_, rfl, rfl, hS18⟩; refine ⟨_, rfl, ?_⟩
 replace hS18 := hS18.join rfl; dsimp only [List.dropLast, List.cons_append, List.nil_append] at hS18; clear hC18
 clear hS16
 refine wl_guard rfl rfl (decide_eq_false h17) ?_
 refine wl_geq rfl rfl rfl ?_
 refine wl_pickF rfl (decide_eq_false h17) rfl rfl ?_
 refine wl_nil (qs_seq ?_)
 refine wc_sub (L' := [(48, _), (8, _), (0, _), (1, _), (2, _), (3, _)]) (.cons rfl (.cons rfl (.cons rfl (.cons rfl (.cons rfl (.cons rfl .nil)))))) ?_
 refine wc_condD rfl (fun h19 => ?_) (fun h19 => ?_)
 ·have hc4 : 8 ≤ depF W 100 dir ∨ 64 ≤ cntK W [105, 47] := by omega
  refine wc_seq (wc_region (wl_assign rfl rfl (wl_nil (qs_seq (wc_ret (qs_then_ret ?_))))))
  refine fin1 (.inr rfl) rfl rfl ?_
  have hE : mkdE W dir name id = 6 := by unfold mkdE; rw [look_y hnb hdd]; rw [if_neg (fun q => q rfl), if_neg (by assumption), if_neg hc2, if_neg (by simp [hb3]), if_pos hc4]
  exact ⟨_, rfl, by rw [hE], by unfold mkdW; rw [if_neg (by rw [hE]; first | decide | assumption)]; exact refP_up (by omega) (hS18.pick [0, 2] rfl)⟩
 have hc4 : ¬ (8 ≤ depF W 100 dir ∨ 64 ≤ cntK W [105, 47]) := by omega
 refine wc_skip (qs_seq (wc_seq (wc_region (wl_move rfl rfl (wl_move rfl rfl ?_)))))
 refine wl_buildX (vs' := [intV mkdI.k, intV mkdI.sz, intV mkdI.ln]) rfl pl_35_0_2 asz_35 zr_35 rfl rfl rfl ?_
 have hC20 := hS18.split [0] [true, false, false] rfl; dsimp only [selF, pickA, nthA, List.cons_append, List.nil_append] at hC20
 refine wl_call cal_60 rfl (rset_sp hC20 (by omega) id (by omega) mkdI_in) rfl ?_
 rintro e w20 ⟨_, rfl, rfl, hS20⟩; refine ⟨_, rfl, ?_⟩
 replace hS20 := hS20.join rfl; dsimp only [List.dropLast, List.cons_append, List.nil_append] at hS20; clear hC20
 clear hS18
 refine wl_nil (qs_seq (wc_seq (wc_region (wl_move rfl rfl (wl_move rfl rfl ?_)))))
 refine wl_concat rfl rfl (by first | omega | (simp; omega)) rfl ?_
 refine wl_move rfl rfl ?_
 have hC21 := hS20.split [0] [true, false, false] rfl; dsimp only [selF, pickA, nthA, List.cons_append, List.nil_append] at hC21
 refine wl_call cal_24 rfl (qPut hC21 (by omega) (kU id) dir) rfl ?_
 rintro e w21 ⟨_, rfl, rfl, hS21⟩; refine ⟨_, rfl, ?_⟩
 replace hS21 := hS21.join rfl; dsimp only [List.dropLast, List.cons_append, List.nil_append] at hS21; clear hC21
 clear hS20
 refine wl_nil (qs_seq ?_)
 refine wc_sub (L' := [(8, _), (0, _), (1, _), (2, _), (3, _)]) (.cons rfl (.cons rfl (.cons rfl (.cons rfl (.cons rfl .nil))))) ?_
 refine wc_seq (wc_region (wl_move rfl rfl (wl_move rfl rfl (wl_move rfl rfl ?_))))
 have hC22 := hS21.split [] [false, false, false] rfl; dsimp only [selF, pickA, nthA, List.cons_append, List.nil_append] at hC22
 refine wl_call cal_73 rfl (rentry_sp hC22 dir name (by omega) (by omega)) rfl ?_
 rintro e w22 ⟨_, rfl, rfl, hS22⟩; refine ⟨_, rfl, ?_⟩
 replace hS22 := hS22.join rfl; dsimp only [List.dropLast, List.cons_append, List.nil_append] at hS22; clear hC22
 clear hS21
 refine wl_move rfl rfl ?_
 have hC23 := hS22.split [0] [true, false, false] rfl; dsimp only [selF, pickA, nthA, List.cons_append, List.nil_append] at hC23
 refine wl_call cal_24 rfl (qPut hC23 (by omega) (kE dir name) id) rfl ?_
 rintro e w23 ⟨_, rfl, rfl, hS23⟩; refine ⟨_, rfl, ?_⟩
 replace hS23 := hS23.join rfl; dsimp only [List.dropLast, List.cons_append, List.nil_append] at hS23; clear hC23
 clear hS22
 refine wl_nil (qs_seq ?_)
 refine wc_sub (L' := [(8, _)]) (.cons rfl .nil) ?_
 refine wc_seq (wc_region (wl_assign rfl rfl (wl_nil (qs_seq (wc_ret ?_)))))
 refine fin1 (.inr rfl) rfl rfl ?_
 have hE : mkdE W dir name id = 0 := by unfold mkdE; rw [look_y hnb hdd]; rw [if_neg (fun q => q rfl), if_neg (by assumption), if_neg hc2, if_neg (by simp [hb3]), if_neg hc4]
 exact ⟨_, rfl, by rw [hE], by unfold mkdW; rw [if_pos hE]; exact hS23.pick [0, 2] rfl⟩
end Go.Proofs.YtkaikhcpcbjkcaaGreatDoor
/- the reference of names: Rmdir, along -/
namespace Go.Proofs.YtkaikhcpcbjkcaaGreatDoor
open Go.RowKit M
set_option linter.unusedVariables false
set_option maxRecDepth 100000 in
theorem rempty_sp {w : World} {F : Th} {p n : Nat} {W : WS} (hS : Sat w [refP p W n, F]) (hn : n ≤ 1000) (id : Bs) (hid : id.length ≤ 3000000) (n1 : InD) :
    Calls Tryz.prog 99 #[ptrV p 0, strV id, .agg #[intV n1.k, intV n1.sz, intV n1.ln]] w (Ret fun v w' => v = intV (empE W id n1) ∧ Sat w' [refP p W n, F]) := by
 refine calls_enter Tryz.func99 rfl Tryz.ntmps99 rfl ?_
 refine wc_seq (wc_region ?_)
 refine wl_box hS rfl rfl rfl ?_
 intro b1 w1 hS1
 refine wl_assign rfl rfl (wl_nil (qs_seq (wc_seq (wc_seq (wc_region ?_)))))
 refine wl_fieldAddr rfl fo_35_0 rfl ?_
 refine wl_load rfl ag_3 (by first | assumption | exact hS1.cell 0 rfl rfl) rfl ?_
 refine wl_neq rfl rfl rfl ?_
 refine wl_nil (qs_seq ?_)
 refine wc_condD rfl (fun h2 => ?_) (fun h2 => ?_)
 ·refine wc_seq (wc_region (wl_assign rfl rfl (wl_nil (qs_seq (wc_ret (qs_then_ret ?_))))))
  refine fin1 (.inr rfl) rfl rfl ?_
  exact ⟨_, rfl, by unfold empE; rw [if_pos (by assumption)], hS1.pick [1, 2] rfl⟩
 refine wc_skip (qs_seq (wc_seq (wc_seq (wc_region (wl_move rfl rfl (wl_move rfl rfl ?_))))))
 have hC3 := hS1.split [] [false, false, false] rfl; dsimp only [selF, pickA, nthA, List.cons_append, List.nil_append] at hC3
 refine wl_call cal_73 rfl (rentry_sp hC3 id [] (by omega) (by simp)) rfl ?_
 rintro e w3 ⟨_, rfl, rfl, hS3⟩; refine ⟨_, rfl, ?_⟩
 replace hS3 := hS3.join rfl; dsimp only [List.dropLast, List.cons_append, List.nil_append] at hS3; clear hC3
 clear hS1
 have hC4 := hS3.split [1] [false, true, false] rfl; dsimp only [selF, pickA, nthA, List.cons_append, List.nil_append] at hC4
 refine wl_call cal_72 rfl (qWith hC4 hn (kE id [])) rfl ?_
 rintro e w4 ⟨_, rfl, lw, hcn, _, hln, hS4⟩; refine ⟨_, rfl, ?_⟩
 replace hS4 := hS4.join rfl; dsimp only [List.dropLast, List.cons_append, List.nil_append] at hS4; clear hC4
 clear hS3
 have hkn := cntK_eq hcn
 obtain ⟨la, lc, hlv, _⟩ := hS4.own_shape 0 rfl
 obtain rfl := hlv
 first | refine wl_lenL Tryz.underlying40 rfl rfl ?_ | refine wl_lenO 0 hS4 Tryz.underlying40 rfl rfl rfl ?_
 refine wl_gtr rfl rfl rfl ?_
 refine wl_nil (qs_seq ?_)
 refine wc_sub (L' := [(15, _), (6, _)]) (.cons rfl (.cons rfl .nil)) ?_
 refine wc_condD rfl (fun h5 => ?_) (fun h5 => ?_)
 ·refine wc_seq (wc_region (wl_assign rfl rfl (wl_nil (qs_seq (wc_ret (qs_then_ret ?_))))))
  refine fin1 (.inr rfl) rfl rfl ?_
  exact ⟨_, rfl, by unfold empE; rw [if_neg (by assumption), if_pos (by omega)], hS4.pick [1, 3] rfl⟩
 refine wc_skip (qs_seq (wc_seq (wc_region (wl_assign rfl rfl (wl_nil (qs_seq (wc_ret ?_)))))))
 refine fin1 (.inr rfl) rfl rfl ?_
 exact ⟨_, rfl, by unfold empE; rw [if_neg (by assumption), if_neg (by omega)], hS4.pick [1, 3] rfl⟩
set_option maxRecDepth 100000 in
theorem rrmdir_sp {w : World} {F : Th} {p n : Nat} {W : WS} (hS : Sat w [refP p W n, F]) (hn : n ≤ 900) (hB : TB W) (dir name : Bs) (hd : dir.length ≤ 900) (hnl : name.length ≤ 900) :
    Calls Tryz.prog 64 #[ptrV p 0, strV dir, strV name] w (Ret fun v w' => v = intV (rmdE W dir name) ∧ Sat w' [refP p (rmdW W dir name) (n + 3), F]) := by
 refine calls_enter Tryz.func64 rfl Tryz.ntmps64 rfl ?_
 refine wc_seq (wc_region (wl_assign rfl rfl (wl_nil (qs_seq (wc_seq (wc_seq (wc_region (wl_move rfl rfl ?_))))))))
 have hC1 := hS.split [] [false, false] rfl; dsimp only [selF, pickA, nthA, List.cons_append, List.nil_append] at hC1
 refine wl_call cal_38 rfl (rname_sp hC1 name (by omega)) rfl ?_
 rintro e w1 ⟨_, rfl, rfl, hS1⟩; refine ⟨_, rfl, ?_⟩
 replace hS1 := hS1.join rfl; dsimp only [List.dropLast, List.cons_append, List.nil_append] at hS1; clear hC1
 refine wl_not rfl rfl ?_
 refine wl_nil (qs_seq ?_)
 refine wc_cond rfl (fun h2 => ?_) (fun h2 => ?_)
 ·have hnb : nameB name = false := by simpa using h2
  refine wc_seq (wc_region (wl_assign rfl rfl (wl_nil (qs_seq (wc_ret (qs_then_ret ?_))))))
  refine fin1 (.inr rfl) rfl rfl ?_
  have hE : rmdE W dir name = 16 := by unfold rmdE; rw [look_n hnb]; rw [if_pos (by decide)]
  exact ⟨_, rfl, by rw [hE], by unfold rmdW; rw [if_neg (by rw [hE]; first | decide | assumption)]; exact refP_up (by omega) (hS1.pick [0, 1] rfl)⟩
 have hnb : nameB name = true := by simpa using h2
 refine wc_skip (qs_seq (wc_seq (wc_region (wl_move rfl rfl (wl_move rfl rfl ?_)))))
 have hC3 := hS1.split [0] [true, false] rfl; dsimp only [selF, pickA, nthA, List.cons_append, List.nil_append] at hC3
 refine wl_call cal_69 rfl (rdir_sp hC3 (by omega) hB dir (by omega)) rfl ?_
 rintro e w3 ⟨_, rfl, rfl, hS3⟩; refine ⟨_, rfl, ?_⟩
 replace hS3 := hS3.join rfl; dsimp only [List.dropLast, List.cons_append, List.nil_append] at hS3; clear hC3
 clear hS1
 refine wl_assign rfl rfl (wl_nil (qs_seq ?_))
 refine wc_sub (L' := [(7, _), (6, _), (0, _), (1, _), (2, _)]) (.cons rfl (.cons rfl (.cons rfl (.cons rfl (.cons rfl .nil))))) ?_
 refine wc_seq (wc_seq (wc_region (wl_move rfl rfl ?_)))
 refine wl_neq rfl rfl rfl ?_
 refine wl_nil (qs_seq ?_)
 refine wc_condD rfl (fun h4 => ?_) (fun h4 => ?_)
 ·have hdd : dirE W dir ≠ 0 := h4
  refine wc_seq (wc_region (wl_move rfl rfl (wl_assign rfl rfl (wl_nil (qs_seq (wc_ret (qs_then_ret ?_)))))))
  refine fin1 (.inr rfl) rfl rfl ?_
  have hE : rmdE W dir name = dirE W dir := by unfold rmdE; rw [look_d hnb hdd]; rw [if_pos hdd]
  exact ⟨_, rfl, by rw [hE], by unfold rmdW; rw [if_neg (by rw [hE]; first | decide | assumption)]; exact refP_up (by omega) (hS3.pick [0, 1] rfl)⟩
 have hdd : dirE W dir = 0 := Decidable.not_not.1 h4
 refine wc_skip (qs_seq (wc_seq (wc_region (wl_move rfl rfl (wl_move rfl rfl (wl_move rfl rfl ?_))))))
 have hC5 := hS3.split [0] [true, false] rfl; dsimp only [selF, pickA, nthA, List.cons_append, List.nil_append] at hC5
 refine wl_call cal_98 rfl (rfound_sp hC5 (by omega) hB dir name (by omega) (by omega)) rfl ?_
 rintro e w5 ⟨_, rfl, rfl, hS5⟩; refine ⟨_, rfl, ?_⟩
 replace hS5 := hS5.join rfl; dsimp only [List.dropLast, List.cons_append, List.nil_append] at hS5; clear hC5
 clear hS3
 refine wl_move rfl rfl (wl_extract rfl rfl rfl (wl_extract rfl rfl rfl (wl_extract rfl rfl rfl ?_)))
 refine wl_alloc hS5 zr_35 rfl rfl ?_
 intro b6 w6 hS6
 clear hS5
 refine wl_assign rfl rfl ?_
 first | (refine wl_storeA hS6 rfl rfl sz_35 rfl (by first | rfl | (simp [allOne, Value.oneCell']; done) | assumption | exact hone) (i := 0) rfl (by first | decide | exact Nat.le_of_ble_eq_true rfl | (simp; done) | omega) ?_)
 intro w7 hS8; dsimp only [List.set] at hS8
 clear hS6
 refine wl_assign rfl rfl (wl_nil (qs_seq ?_))
 refine wc_sub (L' := [(10, _), (8, _), (9, _), (7, _), (6, _), (0, _), (1, _), (2, _)]) (.cons rfl (.cons rfl (.cons rfl (.cons rfl (.cons rfl (.cons rfl (.cons rfl (.cons rfl .nil)))))))) ?_
 refine wc_seq (wc_seq (wc_region (wl_move rfl rfl ?_)))
 refine wl_not rfl rfl ?_
 refine wl_nil (qs_seq ?_)
 refine wc_cond rfl (fun h9 => ?_) (fun h9 => ?_)
 ·have hok : (bI W (W.cells (kE dir name)) && decide ((W.cells (kE dir name)) ≠ [])) = false := by simpa only [Bool.not_eq_true'] using h9
  refine wc_seq (wc_region (wl_assign rfl rfl (wl_nil (qs_seq (wc_ret (qs_then_ret ?_))))))
  refine fin1 (.inr rfl) rfl rfl ?_
  have hE : rmdE W dir name = 4 := by unfold rmdE; rw [look_y hnb hdd]; rw [if_neg (fun q => q rfl), if_pos hok]
  exact ⟨_, rfl, by rw [hE], by unfold rmdW; rw [if_neg (by rw [hE]; first | decide | assumption)]; exact refP_up (by omega) (hS8.pick [1, 2] rfl)⟩
 have hok : (bI W (W.cells (kE dir name)) && decide ((W.cells (kE dir name)) ≠ [])) = true := by simpa only [Bool.not_eq_false'] using h9
 refine wc_skip (qs_seq (wc_seq (wc_region (wl_move rfl rfl (wl_move rfl rfl ?_)))))
 refine wl_loadA rfl ag_35 sz_35 (by first | exact hS8.blk 0 rfl) (by first | decide | exact Nat.le_of_ble_eq_true rfl | (simp; done) | omega) rfl rfl ?_
 have hC10 := hS8.split [1] [false, true, false] rfl; dsimp only [selF, pickA, nthA, List.cons_append, List.nil_append] at hC10
 refine wl_call cal_99 rfl (rempty_sp hC10 (by omega) (W.cells (kE dir name)) (by have := hB (kE dir name); omega) (gI' W (W.cells (kE dir name)))) rfl ?_
 rintro e w10 ⟨_, rfl, rfl, hS10⟩; refine ⟨_, rfl, ?_⟩
 replace hS10 := hS10.join rfl; dsimp only [List.dropLast, List.cons_append, List.nil_append] at hS10; clear hC10
 clear hS8
 refine wl_assign rfl rfl (wl_nil (qs_seq ?_))
 refine wc_sub (L' := [(7, _), (8, _), (6, _), (0, _), (1, _), (2, _)]) (.cons rfl (.cons rfl (.cons rfl (.cons rfl (.cons rfl (.cons rfl .nil)))))) ?_
 refine wc_seq (wc_seq (wc_region (wl_move rfl rfl ?_)))
 refine wl_neq rfl rfl rfl ?_
 refine wl_nil (qs_seq ?_)
 refine wc_condD rfl (fun h11 => ?_) (fun h11 => ?_)
 ·refine wc_seq (wc_region (wl_move rfl rfl (wl_assign rfl rfl (wl_nil (qs_seq (wc_ret (qs_then_ret ?_)))))))
  refine fin1 (.inr rfl) rfl rfl ?_
  have hE : rmdE W dir name = empE W (W.cells (kE dir name)) (gI' W (W.cells (kE dir name))) := by unfold rmdE; rw [look_y hnb hdd]; rw [if_neg (fun q => q rfl), if_neg (fun q => by have q2 := hok.symm.trans q; cases q2)]
  exact ⟨_, rfl, by rw [hE], by unfold rmdW; rw [if_neg (by rw [hE]; first | decide | assumption)]; exact refP_up (by omega) (hS10.pick [0, 2] rfl)⟩
 refine wc_skip (qs_seq (wc_seq (wc_region (wl_move rfl rfl (wl_move rfl rfl (wl_move rfl rfl ?_))))))
 have hC12 := hS10.split [] [false, false, false] rfl; dsimp only [selF, pickA, nthA, List.cons_append, List.nil_append] at hC12
 refine wl_call cal_73 rfl (rentry_sp hC12 dir name (by omega) (by omega)) rfl ?_
 rintro e w12 ⟨_, rfl, rfl, hS12⟩; refine ⟨_, rfl, ?_⟩
 replace hS12 := hS12.join rfl; dsimp only [List.dropLast, List.cons_append, List.nil_append] at hS12; clear hC12
 clear hS10
 have hC13 := hS12.split [0] [true, false, false] rfl; dsimp only [selF, pickA, nthA, List.cons_append, List.nil_append] at hC13
 refine wl_call cal_24 rfl (qPut hC13 (by omega) (kE dir name) []) rfl ?_
 rintro e w13 ⟨_, rfl, rfl, hS13⟩; refine ⟨_, rfl, ?_⟩
 replace hS13 := hS13.join rfl; dsimp only [List.dropLast, List.cons_append, List.nil_append] at hS13; clear hC13
 clear hS12
 refine wl_nil (qs_seq ?_)
 refine wc_sub (L' := [(8, _), (6, _), (0, _)]) (.cons rfl (.cons rfl (.cons rfl .nil))) ?_
 refine wc_seq (wc_region (wl_move rfl rfl (wl_move rfl rfl ?_)))
 have hC14 := hS13.split [0] [true, false, false] rfl; dsimp only [selF, pickA, nthA, List.cons_append, List.nil_append] at hC14
 refine wl_call cal_66 rfl (rno_sp hC14 (by omega) (W.cells (kE dir name)) (by have := hB (kE dir name); omega)) rfl ?_
 rintro e w14 ⟨_, rfl, rfl, hS14⟩; refine ⟨_, rfl, ?_⟩
 replace hS14 := hS14.join rfl; dsimp only [List.dropLast, List.cons_append, List.nil_append] at hS14; clear hC14
 clear hS13
 refine wl_nil (qs_seq (wc_seq (wc_region (wl_assign rfl rfl (wl_nil (qs_seq (wc_ret ?_)))))))
 refine fin1 (.inr rfl) rfl rfl ?_
 have hE : rmdE W dir name = 0 := by unfold rmdE; rw [look_y hnb hdd]; rw [if_neg (fun q => q rfl), if_neg (fun q => by have q2 := hok.symm.trans q; cases q2)]; exact Decidable.not_not.1 (by assumption)
 exact ⟨_, rfl, by rw [hE], by unfold rmdW; rw [if_pos hE, look_y hnb hdd]; exact hS14.pick [0, 2] rfl⟩
set_option maxRecDepth 100000 in
set_option maxHeartbeats 800000 in
theorem ralong_sp {w : World} {F : Th} {p n : Nat} {W : WS} (hS : Sat w [refP p W n, F]) (hn : n ≤ 900) {m : Nat} (hP : PI W m) (id0 : Bs) (hid : id0.length ≤ 900) {lv : Value} {l : List Bs} (hL : Ent F (RdL stC lv l)) (hxb : ∀ x ∈ l, x.length ≤ 900) :
    Calls Tryz.prog 67 #[ptrV p 0, strV id0, lv] w (Ret fun v w' => v = .tuple #[strV (walkV W id0 l).1, intV (walkV W id0 l).2] ∧ Sat w' [refP p W n, F]) := by
 obtain ⟨ao, cap, rfl, hmax⟩ := (hL.sat hS 1 rfl).shape
 refine calls_enter Tryz.func67 rfl Tryz.ntmps67 rfl ?_
 refine wc_seq (wc_region (wl_assign rfl rfl (wl_assign rfl rfl (wl_nil (qs_seq (wc_seq (wc_seq (wc_region (wl_assign rfl rfl (wl_nil (qs_seq (wc_block ?_))))))))))))
 refine wc_loop (fun K0 E0 W0 => ∃ (i : Nat), K0 = l.length - i ∧ E0 = [(0, ptrV p 0), (1, strV (walkV W id0 (l.take i)).1), (2, .slice ao l.length cap), (8, intV (i : Int))] ∧ Sat W0 [refP p W n, F] ∧ (i ≤ l.length) ∧ ((walkV W id0 (l.take i)).2 = 0) ∧ ((walkV W id0 (l.take i)).1.length ≤ 900)) (L0 := [(0, _), (1, _), (2, _), (8, _)]) (l.length - 0) (.cons rfl (.cons rfl (.cons rfl (.cons rfl .nil)))) ⟨0, rfl, rfl, hS, by omega, rfl, hid⟩ ?_
 rintro _ _ w1 ⟨i, rfl, rfl, hS1, hi, h0, hidl⟩
 refine wc_seq (wc_seq (wc_region (wl_move rfl rfl (wl_move rfl rfl ?_))))
 refine wl_lenL Tryz.underlying40 rfl rfl ?_
 refine wl_lss rfl rfl rfl ?_
 refine wl_nil (qs_seq ?_)
 refine wc_condD rfl (fun h2 => ?_) (fun h2 => ?_)
 ·obtain ⟨x, hx⟩ : ∃ x, l[i]? = some x := ⟨_, List.getElem?_eq_getElem (by omega)⟩
  obtain ⟨b, off, rfl, hcx⟩ := (hL.sat hS1 1 rfl).get hx
  have hxl := hxb x (List.mem_of_getElem? hx)
  refine wc_skip (qs_seq (wc_seq (wc_block (wc_seq (wc_region (wl_move rfl rfl (wl_move rfl rfl ?_)))))))
  have hC3 := hS1.split [0] [true, false] rfl; dsimp only [selF, pickA, nthA, List.cons_append, List.nil_append] at hC3
  refine wl_call cal_69 rfl (rdir_sp hC3 (by omega) hP.tb (walkV W id0 (l.take i)).1 (by omega)) rfl ?_
  rintro e w3 ⟨_, rfl, rfl, hS3⟩; refine ⟨_, rfl, ?_⟩
  replace hS3 := hS3.join rfl; dsimp only [List.dropLast, List.cons_append, List.nil_append] at hS3; clear hC3
  clear hS1
  refine wl_assign rfl rfl (wl_nil (qs_seq ?_))
  refine wc_sub (L' := [(9, _), (0, _), (1, _), (2, _), (8, _)]) (.cons rfl (.cons rfl (.cons rfl (.cons rfl (.cons rfl .nil))))) ?_
  refine wc_seq (wc_seq (wc_region (wl_move rfl rfl ?_)))
  refine wl_neq rfl rfl rfl ?_
  refine wl_nil (qs_seq ?_)
  refine wc_condD rfl (fun h4 => ?_) (fun h4 => ?_)
  ·have hdn : dirE W (walkV W id0 (l.take i)).1 ≠ 0 := h4
   refine wc_seq (wc_region (wl_move rfl rfl (wl_assign rfl rfl (wl_assign rfl rfl (wl_nil (qs_seq (wc_ret (qs_then_ret (qs_block_ret (qs_then_ret (qs_then_ret (qs_block_ret (qs_then_ret ?_)))))))))))))
   refine fin2 (.inr rfl) rfl rfl rfl ?_
   have hst : stepV W (walkV W id0 (l.take i)).1 x = ([], dirE W (walkV W id0 (l.take i)).1) := by unfold stepV; rw [if_pos hdn]
   have her := walkV_err hx h0 (by rw [hst]; first | decide | assumption)
   rw [hst] at her
   exact ⟨_, rfl, by rw [her], hS3.pick [0, 1] rfl⟩
  have hdd : dirE W (walkV W id0 (l.take i)).1 = 0 := Decidable.not_not.1 h4
  refine wc_skip (qs_seq (wc_seq (wc_seq (wc_region (wl_move rfl rfl (wl_move rfl rfl ?_))))))
  refine wl_indexAddr i rfl rfl (by first | rfl | omega) (by omega) es_40 rfl ?_
  refine wl_load rfl ag_9 ((hL.sat hS3 1 rfl).at_ hx 0 _ rfl) rfl ?_
  refine wl_eqlS rfl rfl rfl ?_
  refine wl_nil (qs_seq ?_)
  refine wc_sub (L' := [(26, _), (0, _), (1, _), (2, _), (8, _)]) (.cons rfl (.cons rfl (.cons rfl (.cons rfl (.cons rfl .nil))))) ?_
  refine wc_condD rfl (fun h5 => ?_) (fun h5 => ?_)
  ·have hpt : x = [46] := h5
   refine wc_exit (qs_then_exit (qs_block_exit (qs_seq (wc_region (wl_move rfl rfl ?_)))))
   refine wl_add rfl rfl (by first | omega | (simp; omega)) (by first | omega | (simp; omega)) rfl ?_
   refine wl_assign rfl rfl (wl_nil ?_)
   have hst : stepV W (walkV W id0 (l.take i)).1 x = ((walkV W id0 (l.take i)).1, 0) := by unfold stepV; rw [if_neg (by simp [hdd]), if_pos hpt]
   have hwk := walkV_take hx h0 (by rw [hst])
   rw [hst] at hwk
   exact qs_round (L1 := [(0, _), (1, strV (walkV W id0 (l.take i)).1), (2, _), (8, intV ((i + 1 : Nat) : Int))]) (.cons rfl (.cons rfl (.cons rfl (.cons rfl .nil)))) (k1 := l.length - (i + 1)) (by omega) ⟨i + 1, rfl, by rw [hwk], hS3.pick [0, 1] rfl, by omega, by rw [hwk], by rw [hwk]; exact hidl⟩
  have hp1 : ¬ x = [46] := h5
  refine wc_skip (qs_seq (wc_seq (wc_seq (wc_region (wl_move rfl rfl (wl_move rfl rfl ?_))))))
  refine wl_indexAddr i rfl rfl (by first | rfl | omega) (by omega) es_40 rfl ?_
  refine wl_load rfl ag_9 ((hL.sat hS3 1 rfl).at_ hx 0 _ rfl) rfl ?_
  refine wl_eqlS rfl rfl rfl ?_
  refine wl_nil (qs_seq ?_)
  refine wc_condD rfl (fun h6 => ?_) (fun h6 => ?_)
  ·have hpt2 : x = [46, 46] := h6
   refine wc_seq (wc_region (wl_move rfl rfl (wl_move rfl rfl ?_)))
   refine wl_concat rfl rfl (by first | omega | (simp; omega)) rfl ?_
   have hC7 := hS3.split [0] [true, false] rfl; dsimp only [selF, pickA, nthA, List.cons_append, List.nil_append] at hC7
   refine wl_call cal_77 rfl (qGet hC7 (by omega) (kU (walkV W id0 (l.take i)).1)) rfl ?_
   rintro e w7 ⟨_, rfl, rfl, hS7⟩; refine ⟨_, rfl, ?_⟩
   replace hS7 := hS7.join rfl; dsimp only [List.dropLast, List.cons_append, List.nil_append] at hS7; clear hC7
   clear hS3
   refine wl_assign rfl rfl (wl_nil (qs_seq ?_))
   refine wc_sub (L' := [(1, _), (0, _), (2, _), (8, _)]) (.cons rfl (.cons rfl (.cons rfl (.cons rfl .nil)))) ?_
   refine wc_exit (qs_then_exit (qs_block_exit (qs_seq (wc_region (wl_move rfl rfl ?_)))))
   refine wl_add rfl rfl (by first | omega | (simp; omega)) (by first | omega | (simp; omega)) rfl ?_
   refine wl_assign rfl rfl (wl_nil ?_)
   have hst : stepV W (walkV W id0 (l.take i)).1 x = ((W.cells (kU (walkV W id0 (l.take i)).1)), 0) := by unfold stepV; rw [if_neg (by simp [hdd]), if_neg hp1, if_pos hpt2]
   have hwk := walkV_take hx h0 (by rw [hst])
   rw [hst] at hwk
   exact qs_round (L1 := [(0, _), (1, strV (W.cells (kU (walkV W id0 (l.take i)).1))), (2, _), (8, intV ((i + 1 : Nat) : Int))]) (.cons rfl (.cons rfl (.cons rfl (.cons rfl .nil)))) (k1 := l.length - (i + 1)) (by omega) ⟨i + 1, rfl, by rw [hwk], hS7.pick [0, 1] rfl, by omega, by rw [hwk], by rw [hwk]; exact Nat.le_trans (hP.val _) (by omega)⟩
  have hp2 : ¬ x = [46, 46] := h6
  refine wc_skip (qs_seq (wc_seq (wc_seq (wc_region (wl_move rfl rfl (wl_move rfl rfl ?_))))))
  refine wl_indexAddr i rfl rfl (by first | rfl | omega) (by omega) es_40 rfl ?_
  refine wl_load rfl ag_9 ((hL.sat hS3 1 rfl).at_ hx 0 _ rfl) rfl ?_
  have hC8 := hS3.split [] [false, false] rfl; dsimp only [selF, pickA, nthA, List.cons_append, List.nil_append] at hC8
  refine wl_call cal_38 rfl (rname_sp hC8 x (by omega)) rfl ?_
  rintro e w8 ⟨_, rfl, rfl, hS8⟩; refine ⟨_, rfl, ?_⟩
  replace hS8 := hS8.join rfl; dsimp only [List.dropLast, List.cons_append, List.nil_append] at hS8; clear hC8
  clear hS3
  refine wl_not rfl rfl ?_
  refine wl_nil (qs_seq ?_)
  refine wc_sub (L' := [(41, _), (0, _), (1, _), (2, _), (8, _)]) (.cons rfl (.cons rfl (.cons rfl (.cons rfl (.cons rfl .nil))))) ?_
  refine wc_cond rfl (fun h9 => ?_) (fun h9 => ?_)
  ·have hnn : nameB x = false := by simpa using h9
   refine wc_seq (wc_region (wl_assign rfl rfl (wl_assign rfl rfl (wl_nil (qs_seq (wc_ret (qs_then_ret (qs_block_ret (qs_then_ret (qs_then_ret (qs_block_ret (qs_then_ret ?_))))))))))))
   refine fin2 (.inr rfl) rfl rfl rfl ?_
   have hst : stepV W (walkV W id0 (l.take i)).1 x = ([], 16) := by unfold stepV; rw [if_neg (by simp [hdd]), if_neg hp1, if_neg hp2, if_pos hnn]
   have her := walkV_err hx h0 (by rw [hst]; first | decide | assumption)
   rw [hst] at her
   exact ⟨_, rfl, by rw [her], hS8.pick [0, 1] rfl⟩
  have hnm : nameB x = true := by simpa using h9
  refine wc_skip (qs_seq (wc_seq (wc_region (wl_move rfl rfl (wl_move rfl rfl (wl_move rfl rfl (wl_move rfl rfl ?_)))))))
  refine wl_indexAddr i rfl rfl (by first | rfl | omega) (by omega) es_40 rfl ?_
  refine wl_load rfl ag_9 ((hL.sat hS8 1 rfl).at_ hx 0 _ rfl) rfl ?_
  have hC10 := hS8.split [] [false, false] rfl; dsimp only [selF, pickA, nthA, List.cons_append, List.nil_append] at hC10
  refine wl_call cal_73 rfl (rentry_sp hC10 (walkV W id0 (l.take i)).1 x (by omega) (by omega)) rfl ?_
  rintro e w10 ⟨_, rfl, rfl, hS10⟩; refine ⟨_, rfl, ?_⟩
  replace hS10 := hS10.join rfl; dsimp only [List.dropLast, List.cons_append, List.nil_append] at hS10; clear hC10
  clear hS8
  have hC11 := hS10.split [0] [true, false] rfl; dsimp only [selF, pickA, nthA, List.cons_append, List.nil_append] at hC11
  refine wl_call cal_77 rfl (qGet hC11 (by omega) (kE (walkV W id0 (l.take i)).1 x)) rfl ?_
  rintro e w11 ⟨_, rfl, rfl, hS11⟩; refine ⟨_, rfl, ?_⟩
  replace hS11 := hS11.join rfl; dsimp only [List.dropLast, List.cons_append, List.nil_append] at hS11; clear hC11
  clear hS10
  refine wl_assign rfl rfl (wl_nil (qs_seq ?_))
  refine wc_sub (L' := [(1, _), (0, _), (2, _), (8, _)]) (.cons rfl (.cons rfl (.cons rfl (.cons rfl .nil)))) ?_
  refine wc_seq (wc_region (wl_move rfl rfl ?_))
  refine wl_eqlS rfl rfl rfl ?_
  refine wl_nil (qs_seq ?_)
  refine wc_condD rfl (fun h12 => ?_) (fun h12 => ?_)
  ·refine wc_seq (wc_region (wl_assign rfl rfl (wl_assign rfl rfl (wl_nil (qs_seq (wc_ret (qs_block_ret (qs_then_ret (qs_then_ret (qs_block_ret (qs_then_ret ?_)))))))))))
   refine fin2 (.inr rfl) rfl rfl rfl ?_
   have hst : stepV W (walkV W id0 (l.take i)).1 x = ([], 4) := by unfold stepV; rw [if_neg (by simp [hdd]), if_neg hp1, if_neg hp2, if_neg (by simp [hnm]), if_neg (fun q => q (by assumption))]
   have her := walkV_err hx h0 (by rw [hst]; first | decide | assumption)
   rw [hst] at her
   exact ⟨_, rfl, by rw [her], hS11.pick [0, 1] rfl⟩
  refine wc_skip (qs_block_normal (qs_seq (wc_region (wl_move rfl rfl ?_))))
  refine wl_add rfl rfl (by first | omega | (simp; omega)) (by first | omega | (simp; omega)) rfl ?_
  refine wl_assign rfl rfl (wl_nil ?_)
  have hst : stepV W (walkV W id0 (l.take i)).1 x = ((W.cells (kE (walkV W id0 (l.take i)).1 x)), 0) := by unfold stepV; rw [if_neg (by simp [hdd]), if_neg hp1, if_neg hp2, if_neg (by simp [hnm]), if_pos (by assumption)]
  have hwk := walkV_take hx h0 (by rw [hst])
  rw [hst] at hwk
  exact qs_round (L1 := [(0, _), (1, strV (W.cells (kE (walkV W id0 (l.take i)).1 x))), (2, _), (8, intV ((i + 1 : Nat) : Int))]) (.cons rfl (.cons rfl (.cons rfl (.cons rfl .nil)))) (k1 := l.length - (i + 1)) (by omega) ⟨i + 1, rfl, by rw [hwk], hS11.pick [0, 1] rfl, by omega, by rw [hwk], by rw [hwk]; exact Nat.le_trans (hP.val _) (by omega)⟩
 refine wc_exit (qs_then_exit (qs_then_exit (qs_block_exit (qs_seq (wc_seq (wc_region (wl_move rfl rfl (wl_assign rfl rfl (wl_assign rfl rfl (wl_nil (qs_seq ?_)))))))))))
 refine wc_sub (L' := [(7, _), (6, _)]) (.cons rfl (.cons rfl .nil)) ?_
 refine wc_ret ?_
 refine fin2 (.inr rfl) rfl rfl rfl ?_
 have hll : l.take i = l := List.take_of_length_le (by omega)
 rw [hll] at h0
 exact ⟨_, rfl, by rw [hll, h0], hS1.pick [0, 1] rfl⟩
end Go.Proofs.YtkaikhcpcbjkcaaGreatDoor
