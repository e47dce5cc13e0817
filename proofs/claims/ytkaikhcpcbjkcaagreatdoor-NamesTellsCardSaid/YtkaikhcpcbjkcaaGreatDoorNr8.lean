/- the reference of names: Rename -/
import Derived.Test.YtkaikhcpcbjkcaaGreatDoorNr5
namespace Go.Proofs.YtkaikhcpcbjkcaaGreatDoor
open Go.RowKit M
set_option linter.unusedVariables false
set_option maxRecDepth 100000 in
set_option maxHeartbeats 1600000 in
theorem rrename_sp {w : World} {F : Th} {p n : Nat} {W : WS} (hS : Sat w [refP p W n, F]) (hn : n ≤ 900) (hB : TB W) (dir name td to : Bs) (hd : dir.length ≤ 900) (hnl : name.length ≤ 900) (htd : td.length ≤ 900) (hto : to.length ≤ 900) :
    Calls Tryz.prog 65 #[ptrV p 0, strV dir, strV name, strV td, strV to] w (Ret fun v w' => v = .tuple #[strV (renS W dir name td to), intV (renE W dir name td to)] ∧ Sat w' [refP p (renW W dir name td to) (n + 4), F]) := by
 refine calls_enter Tryz.func65 rfl Tryz.ntmps65 rfl ?_
 refine wc_seq (wc_region (wl_assign rfl rfl (wl_assign rfl rfl (wl_nil (qs_seq (wc_seq (wc_seq (wc_region (wl_move rfl rfl ?_)))))))))
 have hC1 := hS.split [] [false, false] rfl; dsimp only [selF, pickA, nthA, List.cons_append, List.nil_append] at hC1
 refine wl_call cal_38 rfl (rname_sp hC1 name (by omega)) rfl ?_
 rintro e w1 ⟨_, rfl, rfl, hS1⟩; refine ⟨_, rfl, ?_⟩
 replace hS1 := hS1.join rfl; dsimp only [List.dropLast, List.cons_append, List.nil_append] at hS1; clear hC1
 refine wl_not rfl rfl ?_
 refine wl_move rfl rfl ?_
 refine wl_split 23 rfl (fun h2 => ?_) (fun h2 => ?_)
 ·have hc0 : nameB name = false ∨ nameB to = false := .inl (by simpa using h2)
  refine wl_unwanted rfl rfl h2 rfl ?_
  refine wl_unwanted rfl rfl h2 rfl ?_
  refine wl_unwanted rfl rfl h2 rfl ?_
  refine wl_pickT rfl h2 rfl rfl ?_
  refine wl_nil (qs_seq ?_)
  refine wc_sub (L' := [(27, _), (11, _), (10, _), (0, _), (1, _), (2, _), (3, _), (4, _)]) (.cons rfl (.cons rfl (.cons rfl (.cons rfl (.cons rfl (.cons rfl (.cons rfl (.cons rfl .nil)))))))) ?_
  refine wc_condT rfl ?_
  refine wc_seq (wc_region (wl_assign rfl rfl (wl_assign rfl rfl (wl_nil (qs_seq (wc_ret (qs_then_ret ?_)))))))
  refine fin2 (.inr rfl) rfl rfl rfl ?_
  have hE : renE W dir name td to = 16 := by unfold renE; rw [if_pos hc0]
  have hrb : ¬ (renE W dir name td to = 0 ∧ renB W dir name td to = true) := by rintro ⟨q, _⟩; rw [hE] at q; first | exact absurd q (by decide) | exact absurd q (by assumption)
  exact ⟨_, rfl, by unfold renS; rw [if_neg hrb, hE], by unfold renW; rw [if_neg hrb]; exact refP_up (by omega) (hS1.pick [0, 1] rfl)⟩
 have hn1 : nameB name = true := by simpa using h2
 refine wl_guard rfl rfl h2 ?_
 refine wl_move rfl rfl ?_
 refine wl_guard rfl rfl h2 ?_
 have hC3 := hS1.split [] [false, false] rfl; dsimp only [selF, pickA, nthA, List.cons_append, List.nil_append] at hC3
 refine wl_call cal_38 rfl (rname_sp hC3 to (by omega)) rfl ?_
 rintro e w3 ⟨_, rfl, rfl, hS3⟩; refine ⟨_, rfl, ?_⟩
 replace hS3 := hS3.join rfl; dsimp only [List.dropLast, List.cons_append, List.nil_append] at hS3; clear hC3
 clear hS1
 refine wl_guard rfl rfl h2 ?_
 refine wl_not rfl rfl ?_
 refine wl_pickF rfl h2 rfl rfl ?_
 refine wl_nil (qs_seq ?_)
 refine wc_sub (L' := [(27, _), (11, _), (10, _), (0, _), (1, _), (2, _), (3, _), (4, _)]) (.cons rfl (.cons rfl (.cons rfl (.cons rfl (.cons rfl (.cons rfl (.cons rfl (.cons rfl .nil)))))))) ?_
 refine wc_cond rfl (fun h4 => ?_) (fun h4 => ?_)
 ·have hc0 : nameB name = false ∨ nameB to = false := .inr (by simpa using h4)
  refine wc_seq (wc_region (wl_assign rfl rfl (wl_assign rfl rfl (wl_nil (qs_seq (wc_ret (qs_then_ret ?_)))))))
  refine fin2 (.inr rfl) rfl rfl rfl ?_
  have hE : renE W dir name td to = 16 := by unfold renE; rw [if_pos hc0]
  have hrb : ¬ (renE W dir name td to = 0 ∧ renB W dir name td to = true) := by rintro ⟨q, _⟩; rw [hE] at q; first | exact absurd q (by decide) | exact absurd q (by assumption)
  exact ⟨_, rfl, by unfold renS; rw [if_neg hrb, hE], by unfold renW; rw [if_neg hrb]; exact refP_up (by omega) (hS3.pick [0, 1] rfl)⟩
 have hn2 : nameB to = true := by simpa using h4
 have hc0 : ¬ (nameB name = false ∨ nameB to = false) := by rintro (q | q); (rw [hn1] at q; cases q); (rw [hn2] at q; cases q)
 refine wc_skip (qs_seq (wc_seq (wc_region (wl_move rfl rfl (wl_move rfl rfl ?_)))))
 have hC5 := hS3.split [0] [true, false] rfl; dsimp only [selF, pickA, nthA, List.cons_append, List.nil_append] at hC5
 refine wl_call cal_69 rfl (rdir_sp hC5 (by omega) hB dir (by omega)) rfl ?_
 rintro e w5 ⟨_, rfl, rfl, hS5⟩; refine ⟨_, rfl, ?_⟩
 replace hS5 := hS5.join rfl; dsimp only [List.dropLast, List.cons_append, List.nil_append] at hS5; clear hC5
 clear hS3
 refine wl_assign rfl rfl (wl_nil (qs_seq ?_))
 refine wc_sub (L' := [(12, _), (11, _), (10, _), (0, _), (1, _), (2, _), (3, _), (4, _)]) (.cons rfl (.cons rfl (.cons rfl (.cons rfl (.cons rfl (.cons rfl (.cons rfl (.cons rfl .nil)))))))) ?_
 refine wc_seq (wc_seq (wc_region (wl_move rfl rfl ?_)))
 refine wl_eql rfl rfl rfl ?_
 refine wl_nil (qs_seq ?_)
 refine wc_condD rfl (fun h6 => ?_) (fun h6 => ?_)
 ·have hdd : dirE W dir = 0 := h6
  refine wc_region (wl_move rfl rfl (wl_move rfl rfl ?_))
  have hC7 := hS5.split [0] [true, false] rfl; dsimp only [selF, pickA, nthA, List.cons_append, List.nil_append] at hC7
  refine wl_call cal_69 rfl (rdir_sp hC7 (by omega) hB td (by omega)) rfl ?_
  rintro e w7 ⟨_, rfl, rfl, hS7⟩; refine ⟨_, rfl, ?_⟩
  replace hS7 := hS7.join rfl; dsimp only [List.dropLast, List.cons_append, List.nil_append] at hS7; clear hC7
  clear hS5
  refine wl_assign rfl rfl (wl_nil (qs_seq ?_))
  refine wc_sub (L' := [(12, _), (11, _), (10, _), (0, _), (1, _), (2, _), (3, _), (4, _)]) (.cons rfl (.cons rfl (.cons rfl (.cons rfl (.cons rfl (.cons rfl (.cons rfl (.cons rfl .nil)))))))) ?_
  refine wc_seq (wc_seq (wc_region (wl_move rfl rfl ?_)))
  refine wl_neq rfl rfl rfl ?_
  refine wl_nil (qs_seq ?_)
  refine wc_condD rfl (fun h8 => ?_) (fun h8 => ?_)
  ·have hdt : dirE W td ≠ 0 := h8
   refine wc_seq (wc_region (wl_move rfl rfl (wl_assign rfl rfl (wl_assign rfl rfl (wl_nil (qs_seq ?_))))))
   refine wc_sub (L' := [(11, _), (10, _), (12, _), (0, _), (1, _), (2, _), (3, _), (4, _)]) (.cons rfl (.cons rfl (.cons rfl (.cons rfl (.cons rfl (.cons rfl (.cons rfl (.cons rfl .nil)))))))) ?_
   refine wc_ret (qs_then_ret ?_)
   refine fin2 (.inr rfl) rfl rfl rfl ?_
   have hE : renE W dir name td to = dirE W td := by unfold renE; rw [if_neg hc0, look_y hn1 hdd, look_d hn2 hdt, if_neg (fun q => q rfl), if_pos hdt]
   have hrb : ¬ (renE W dir name td to = 0 ∧ renB W dir name td to = true) := by rintro ⟨q, _⟩; rw [hE] at q; first | exact absurd q (by decide) | exact absurd q (by assumption)
   exact ⟨_, rfl, by unfold renS; rw [if_neg hrb, hE], by unfold renW; rw [if_neg hrb]; exact refP_up (by omega) (hS7.pick [0, 1] rfl)⟩
  have hdt : dirE W td = 0 := Decidable.not_not.1 h8
  refine wc_skip (qs_seq (wc_seq (wc_region (wl_move rfl rfl (wl_move rfl rfl (wl_move rfl rfl ?_))))))
  have hC9 := hS7.split [0] [true, false] rfl; dsimp only [selF, pickA, nthA, List.cons_append, List.nil_append] at hC9
  refine wl_call cal_98 rfl (rfound_sp hC9 (by omega) hB dir name (by omega) (by omega)) rfl ?_
  rintro e w9 ⟨_, rfl, rfl, hS9⟩; refine ⟨_, rfl, ?_⟩
  replace hS9 := hS9.join rfl; dsimp only [List.dropLast, List.cons_append, List.nil_append] at hS9; clear hC9
  clear hS7
  refine wl_move rfl rfl (wl_extract rfl rfl rfl (wl_extract rfl rfl rfl (wl_extract rfl rfl rfl ?_)))
  refine wl_alloc hS9 zr_35 rfl rfl ?_
  intro b10 w10 hS10
  clear hS9
  refine wl_assign rfl rfl ?_
  first | (refine wl_storeA hS10 rfl rfl sz_35 rfl (by first | rfl | (simp [allOne, Value.oneCell']; done) | assumption | exact hone) (i := 0) rfl (by first | decide | exact Nat.le_of_ble_eq_true rfl | (simp; done) | omega) ?_)
  intro w11 hS12; dsimp only [List.set] at hS12
  clear hS10
  refine wl_assign rfl rfl (wl_nil (qs_seq ?_))
  refine wc_sub (L' := [(15, _), (13, _), (14, _), (12, _), (11, _), (10, _), (0, _), (1, _), (2, _), (3, _), (4, _)]) (.cons rfl (.cons rfl (.cons rfl (.cons rfl (.cons rfl (.cons rfl (.cons rfl (.cons rfl (.cons rfl (.cons rfl (.cons rfl .nil))))))))))) ?_
  refine wc_seq (wc_seq (wc_region (wl_move rfl rfl ?_)))
  refine wl_not rfl rfl ?_
  refine wl_nil (qs_seq ?_)
  refine wc_cond rfl (fun h13 => ?_) (fun h13 => ?_)
  ·have hb3 : (bI W (W.cells (kE dir name)) && decide ((W.cells (kE dir name)) ≠ [])) = false := by simpa only [Bool.not_eq_true'] using h13
   refine wc_seq (wc_region (wl_assign rfl rfl (wl_assign rfl rfl (wl_nil (qs_seq ?_)))))
   refine wc_sub (L' := [(11, _), (10, _), (13, _), (14, _), (12, _), (0, _), (1, _), (2, _), (3, _), (4, _)]) (.cons rfl (.cons rfl (.cons rfl (.cons rfl (.cons rfl (.cons rfl (.cons rfl (.cons rfl (.cons rfl (.cons rfl .nil)))))))))) ?_
   refine wc_ret (qs_then_ret ?_)
   refine fin2 (.inr rfl) rfl rfl rfl ?_
   have hL1 := look_y (W := W) hn1 hdd
   have hL2 := look_y (W := W) hn2 hdt
   have hE : renE W dir name td to = 4 := by unfold renE; rw [hL1, hL2]; rw [if_neg hc0, if_neg (fun q => q rfl), if_neg (fun q => q rfl), if_pos hb3]
   have hrb : ¬ (renE W dir name td to = 0 ∧ renB W dir name td to = true) := by rintro ⟨q, _⟩; rw [hE] at q; first | exact absurd q (by decide) | exact absurd q (by assumption)
   exact ⟨_, rfl, by unfold renS; rw [if_neg hrb, hE], by unfold renW; rw [if_neg hrb]; exact refP_up (by omega) (hS12.pick [1, 2] rfl)⟩
  have hb3 : (bI W (W.cells (kE dir name)) && decide ((W.cells (kE dir name)) ≠ [])) = true := by simpa only [Bool.not_eq_false'] using h13
  refine wc_skip (qs_seq ?_)
  refine wc_sub (L' := [(13, _), (14, _), (12, _), (11, _), (10, _), (0, _), (1, _), (2, _), (3, _), (4, _)]) (.cons rfl (.cons rfl (.cons rfl (.cons rfl (.cons rfl (.cons rfl (.cons rfl (.cons rfl (.cons rfl (.cons rfl .nil)))))))))) ?_
  refine wc_seq (wc_region (wl_move rfl rfl (wl_move rfl rfl (wl_move rfl rfl ?_))))
  have hC14 := hS12.split [1] [false, true, false] rfl; dsimp only [selF, pickA, nthA, List.cons_append, List.nil_append] at hC14
  refine wl_call cal_98 rfl (rfound_sp hC14 (by omega) hB td to (by omega) (by omega)) rfl ?_
  rintro e w14 ⟨_, rfl, rfl, hS14⟩; refine ⟨_, rfl, ?_⟩
  replace hS14 := hS14.join rfl; dsimp only [List.dropLast, List.cons_append, List.nil_append] at hS14; clear hC14
  clear hS12
  refine wl_move rfl rfl (wl_extract rfl rfl rfl (wl_extract rfl rfl rfl (wl_extract rfl rfl rfl ?_)))
  refine wl_alloc hS14 zr_35 rfl rfl ?_
  intro b15 w15 hS15
  clear hS14
  refine wl_assign rfl rfl ?_
  first | (refine wl_storeA hS15 rfl rfl sz_35 rfl (by first | rfl | (simp [allOne, Value.oneCell']; done) | assumption | exact hone) (i := 0) rfl (by first | decide | exact Nat.le_of_ble_eq_true rfl | (simp; done) | omega) ?_) | (refine wl_storeA hS15 rfl rfl sz_35 rfl (by first | rfl | (simp [allOne, Value.oneCell']; done) | assumption | exact hone) (i := 2) rfl (by first | decide | exact Nat.le_of_ble_eq_true rfl | (simp; done) | omega) ?_)
  intro w16 hS17; dsimp only [List.set] at hS17
  clear hS15
  refine wl_assign rfl rfl (wl_nil (qs_seq ?_))
  refine wc_sub (L' := [(18, _), (16, _), (17, _), (13, _), (14, _), (12, _), (11, _), (10, _), (0, _), (1, _), (2, _), (3, _), (4, _)]) (.cons rfl (.cons rfl (.cons rfl (.cons rfl (.cons rfl (.cons rfl (.cons rfl (.cons rfl (.cons rfl (.cons rfl (.cons rfl (.cons rfl (.cons rfl .nil))))))))))))) ?_
  refine wc_seq (wc_seq (wc_region (wl_move rfl rfl (wl_move rfl rfl ?_))))
  refine wl_eqlS rfl rfl rfl ?_
  refine wl_move rfl rfl ?_
  refine wl_splitD 60 rfl (fun h18 => ?_) (fun h18 => ?_)
  ·have hdt4 : dir = td := h18
   refine wl_guard rfl rfl (decide_eq_true h18) ?_
   refine wl_move rfl rfl ?_
   refine wl_guard rfl rfl (decide_eq_true h18) ?_
   refine wl_move rfl rfl ?_
   refine wl_guard rfl rfl (decide_eq_true h18) ?_
   refine wl_eqlS rfl rfl rfl ?_
   refine wl_pickT rfl (decide_eq_true h18) rfl rfl ?_
   refine wl_move rfl rfl ?_
   refine wl_splitD 65 rfl (fun h19 => ?_) (fun h19 => ?_)
   ·have hc4 : (dir = td ∧ name = to) ∨ (W.cells (kE dir name)) = (W.cells (kE td to)) := .inl ⟨hdt4, h19⟩
    refine wl_unwanted rfl rfl (decide_eq_true h19) rfl ?_
    refine wl_unwanted rfl rfl (decide_eq_true h19) rfl ?_
    refine wl_unwanted rfl rfl (decide_eq_true h19) rfl ?_
    refine wl_unwanted rfl rfl (decide_eq_true h19) rfl ?_
    refine wl_unwanted rfl rfl (decide_eq_true h19) rfl ?_
    refine wl_unwanted rfl rfl (decide_eq_true h19) rfl ?_
    refine wl_unwanted rfl rfl (decide_eq_true h19) rfl ?_
    refine wl_pickT rfl (decide_eq_true h19) rfl rfl ?_
    refine wl_nil (qs_seq ?_)
    refine wc_sub (L' := [(73, _), (18, _), (16, _), (17, _), (13, _), (14, _), (12, _), (11, _), (10, _), (0, _), (1, _), (2, _), (3, _), (4, _)]) (.cons rfl (.cons rfl (.cons rfl (.cons rfl (.cons rfl (.cons rfl (.cons rfl (.cons rfl (.cons rfl (.cons rfl (.cons rfl (.cons rfl (.cons rfl (.cons rfl .nil)))))))))))))) ?_
    refine wc_condT rfl ?_
    refine wc_seq (wc_region (wl_assign rfl rfl (wl_assign rfl rfl (wl_nil (qs_seq (wc_ret (qs_then_ret ?_)))))))
    refine fin2 (.inr rfl) rfl rfl rfl ?_
    have hL1 := look_y (W := W) hn1 hdd
    have hL2 := look_y (W := W) hn2 hdt
    have hE : renE W dir name td to = 0 := by unfold renE; rw [hL1, hL2]; rw [if_neg hc0, if_neg (fun q => q rfl), if_neg (fun q => q rfl), if_neg (fun q => by have q2 := hb3.symm.trans q; cases q2), if_pos hc4]
    have hrb : ¬ (renE W dir name td to = 0 ∧ renB W dir name td to = true) := by rintro ⟨_, q⟩; unfold renB at q; rw [hL1, hL2] at q; rcases hc4 with ⟨q1, q2⟩ | q1; (subst q1; subst q2; simp at q); (rw [q1] at q; simp at q)
    exact ⟨_, rfl, by unfold renS; rw [if_neg hrb, hE], by unfold renW; rw [if_neg hrb]; exact refP_up (by omega) (hS17.pick [1, 3] rfl)⟩
   have hnt4 : ¬ name = to := h19
   refine wl_guard rfl rfl (decide_eq_false h19) ?_
   refine wl_move rfl rfl ?_
   refine wl_guard rfl rfl (decide_eq_false h19) ?_
   refine wl_move rfl rfl ?_
   refine wl_guard rfl rfl (decide_eq_false h19) ?_
   refine wl_move rfl rfl ?_
   refine wl_guard rfl rfl (decide_eq_false h19) ?_
   have hC20 := hS17.split [] [false, false, false, false] rfl; dsimp only [selF, pickA, nthA, List.cons_append, List.nil_append] at hC20
   refine wl_call cal_73 rfl (rentry_sp hC20 td to (by omega) (by omega)) rfl ?_
   rintro e w20 ⟨_, rfl, rfl, hS20⟩; refine ⟨_, rfl, ?_⟩
   replace hS20 := hS20.join rfl; dsimp only [List.dropLast, List.cons_append, List.nil_append] at hS20; clear hC20
   clear hS17
   refine wl_guard rfl rfl (decide_eq_false h19) ?_
   have hC21 := hS20.split [1] [false, true, false, false] rfl; dsimp only [selF, pickA, nthA, List.cons_append, List.nil_append] at hC21
   refine wl_call cal_77 rfl (qGet hC21 (by omega) (kE td to)) rfl ?_
   rintro e w21 ⟨_, rfl, rfl, hS21⟩; refine ⟨_, rfl, ?_⟩
   replace hS21 := hS21.join rfl; dsimp only [List.dropLast, List.cons_append, List.nil_append] at hS21; clear hC21
   clear hS20
   refine wl_guard rfl rfl (decide_eq_false h19) ?_
   refine wl_move rfl rfl ?_
   refine wl_guard rfl rfl (decide_eq_false h19) ?_
   refine wl_eqlS rfl rfl rfl ?_
   refine wl_pickF rfl (decide_eq_false h19) rfl rfl ?_
   refine wl_nil (qs_seq ?_)
   refine wc_sub (L' := [(73, _), (18, _), (16, _), (17, _), (13, _), (14, _), (12, _), (11, _), (10, _), (0, _), (1, _), (2, _), (3, _), (4, _)]) (.cons rfl (.cons rfl (.cons rfl (.cons rfl (.cons rfl (.cons rfl (.cons rfl (.cons rfl (.cons rfl (.cons rfl (.cons rfl (.cons rfl (.cons rfl (.cons rfl .nil)))))))))))))) ?_
   refine wc_condD rfl (fun h22 => ?_) (fun h22 => ?_)
   ·have hc4 : (dir = td ∧ name = to) ∨ (W.cells (kE dir name)) = (W.cells (kE td to)) := .inr (Eq.symm h22)
    refine wc_seq (wc_region (wl_assign rfl rfl (wl_assign rfl rfl (wl_nil (qs_seq (wc_ret (qs_then_ret ?_)))))))
    refine fin2 (.inr rfl) rfl rfl rfl ?_
    have hL1 := look_y (W := W) hn1 hdd
    have hL2 := look_y (W := W) hn2 hdt
    have hE : renE W dir name td to = 0 := by unfold renE; rw [hL1, hL2]; rw [if_neg hc0, if_neg (fun q => q rfl), if_neg (fun q => q rfl), if_neg (fun q => by have q2 := hb3.symm.trans q; cases q2), if_pos hc4]
    have hrb : ¬ (renE W dir name td to = 0 ∧ renB W dir name td to = true) := by rintro ⟨_, q⟩; unfold renB at q; rw [hL1, hL2] at q; rcases hc4 with ⟨q1, q2⟩ | q1; (subst q1; subst q2; simp at q); (rw [q1] at q; simp at q)
    exact ⟨_, rfl, by unfold renS; rw [if_neg hrb, hE], by unfold renW; rw [if_neg hrb]; exact refP_up (by omega) (hS21.pick [0, 3] rfl)⟩
   have hc4 : ¬ ((dir = td ∧ name = to) ∨ (W.cells (kE dir name)) = (W.cells (kE td to))) := by rintro (⟨q1, q2⟩ | q); (first | exact absurd q1 (by assumption) | exact absurd q2 (by assumption)); exact absurd q.symm h22
   refine wc_skip (qs_seq (wc_seq (wc_region (wl_assign rfl rfl (wl_nil (qs_seq (wc_seq (wc_seq (wc_region ?_)))))))))
   refine wl_fieldAddr rfl fo_35_0 rfl ?_
   refine wl_load rfl ag_3 (by first | assumption | exact hS21.cell 1 rfl rfl | exact hS21.cell 2 rfl rfl) rfl ?_
   refine wl_eql rfl rfl rfl ?_
   refine wl_nil (qs_seq ?_)
   refine wc_sub (L' := [(76, _), (19, _), (18, _), (16, _), (17, _), (13, _), (12, _), (11, _), (10, _), (0, _), (1, _), (2, _), (3, _), (4, _)]) (.cons rfl (.cons rfl (.cons rfl (.cons rfl (.cons rfl (.cons rfl (.cons rfl (.cons rfl (.cons rfl (.cons rfl (.cons rfl (.cons rfl (.cons rfl (.cons rfl .nil)))))))))))))) ?_
   refine wc_condD rfl (fun h23 => ?_) (fun h23 => ?_)
   ·have hk : (gI' W (W.cells (kE dir name))).k = 2 := h23
    refine wc_seq (wc_seq (wc_region (wl_move rfl rfl (wl_move rfl rfl ?_))))
    refine wl_neqS rfl rfl rfl ?_
    refine wl_nil (qs_seq ?_)
    refine wc_sub (L' := [(79, _), (19, _), (18, _), (16, _), (17, _), (13, _), (12, _), (11, _), (10, _), (0, _), (1, _), (2, _), (3, _), (4, _)]) (.cons rfl (.cons rfl (.cons rfl (.cons rfl (.cons rfl (.cons rfl (.cons rfl (.cons rfl (.cons rfl (.cons rfl (.cons rfl (.cons rfl (.cons rfl (.cons rfl .nil)))))))))))))) ?_
    refine wc_condD rfl (fun h24 => ?_) (fun h24 => ?_)
    ·have hc5 : (gI' W (W.cells (kE dir name))).k = 2 ∧ td ≠ dir := ⟨hk, h24⟩
     refine wc_seq (wc_region (wl_assign rfl rfl (wl_assign rfl rfl (wl_nil (qs_seq (wc_ret (qs_then_ret (qs_then_ret ?_))))))))
     refine fin2 (.inr rfl) rfl rfl rfl ?_
     have hL1 := look_y (W := W) hn1 hdd
     have hL2 := look_y (W := W) hn2 hdt
     have hE : renE W dir name td to = 1 := by unfold renE; rw [hL1, hL2]; rw [if_neg hc0, if_neg (fun q => q rfl), if_neg (fun q => q rfl), if_neg (fun q => by have q2 := hb3.symm.trans q; cases q2), if_neg hc4, if_pos hc5]
     have hrb : ¬ (renE W dir name td to = 0 ∧ renB W dir name td to = true) := by rintro ⟨q, _⟩; rw [hE] at q; first | exact absurd q (by decide) | exact absurd q (by assumption)
     exact ⟨_, rfl, by unfold renS; rw [if_neg hrb, hE], by unfold renW; rw [if_neg hrb]; exact refP_up (by omega) (hS21.pick [0, 3] rfl)⟩
    have hc5 : ¬ ((gI' W (W.cells (kE dir name))).k = 2 ∧ td ≠ dir) := fun q => h24 q.2
    refine wc_skip (qs_seq (wc_seq (wc_region (wl_move rfl rfl (wl_nil (qs_seq ?_))))))
    refine wc_cond rfl (fun h25 => ?_) (fun h25 => ?_)
    ·have ht : ¬ (bI W (W.cells (kE td to)) && decide ((W.cells (kE td to)) ≠ [])) = false := by have q1 := h25; rw [q1]; decide
     refine wc_seq (wc_region (wl_move rfl rfl (wl_move rfl rfl ?_)))
     refine wl_loadA rfl ag_35 sz_35 (by first | exact hS21.blk 1 rfl | exact hS21.blk 2 rfl) (by first | decide | exact Nat.le_of_ble_eq_true rfl | (simp; done) | omega) rfl rfl ?_
     have hC26 := hS21.split [0] [true, false, false, false] rfl; dsimp only [selF, pickA, nthA, List.cons_append, List.nil_append] at hC26
     refine wl_call cal_99 rfl (rempty_sp hC26 (by omega) (W.cells (kE td to)) (by have := hB (kE td to); omega) (gI' W (W.cells (kE td to)))) rfl ?_
     rintro e w26 ⟨_, rfl, rfl, hS26⟩; refine ⟨_, rfl, ?_⟩
     replace hS26 := hS26.join rfl; dsimp only [List.dropLast, List.cons_append, List.nil_append] at hS26; clear hC26
     clear hS21
     refine wl_assign rfl rfl (wl_nil (qs_seq ?_))
     refine wc_sub (L' := [(12, _), (19, _), (16, _), (13, _), (11, _), (10, _), (0, _), (1, _), (2, _), (3, _), (4, _)]) (.cons rfl (.cons rfl (.cons rfl (.cons rfl (.cons rfl (.cons rfl (.cons rfl (.cons rfl (.cons rfl (.cons rfl (.cons rfl .nil))))))))))) ?_
     refine wc_seq (wc_seq (wc_region (wl_move rfl rfl ?_)))
     refine wl_neq rfl rfl rfl ?_
     refine wl_nil (qs_seq ?_)
     refine wc_condD rfl (fun h27 => ?_) (fun h27 => ?_)
     ·refine wc_seq (wc_region (wl_move rfl rfl (wl_assign rfl rfl (wl_assign rfl rfl (wl_nil (qs_seq ?_))))))
      refine wc_sub (L' := [(11, _), (10, _), (19, _), (16, _), (13, _), (0, _), (1, _), (2, _), (3, _), (4, _)]) (.cons rfl (.cons rfl (.cons rfl (.cons rfl (.cons rfl (.cons rfl (.cons rfl (.cons rfl (.cons rfl (.cons rfl .nil)))))))))) ?_
      refine wc_ret (qs_then_ret (qs_then_ret ?_))
      refine fin2 (.inr rfl) rfl rfl rfl ?_
      have hL1 := look_y (W := W) hn1 hdd
      have hL2 := look_y (W := W) hn2 hdt
      have hE : renE W dir name td to = empE W (W.cells (kE td to)) (gI' W (W.cells (kE td to))) := by unfold renE; rw [hL1, hL2]; rw [if_neg hc0, if_neg (fun q => q rfl), if_neg (fun q => q rfl), if_neg (fun q => by have q2 := hb3.symm.trans q; cases q2), if_neg hc4, if_neg hc5]; show repE W _ _ _ _ = _; unfold repE; rw [if_neg ht, if_pos hk]
      have hrb : ¬ (renE W dir name td to = 0 ∧ renB W dir name td to = true) := by rintro ⟨q, _⟩; rw [hE] at q; first | exact absurd q (by decide) | exact absurd q (by assumption)
      exact ⟨_, rfl, by unfold renS; rw [if_neg hrb, hE], by unfold renW; rw [if_neg hrb]; exact refP_up (by omega) (hS26.pick [0, 3] rfl)⟩
     have he8 : empE W (W.cells (kE td to)) (gI' W (W.cells (kE td to))) = 0 := Decidable.not_not.1 h27
     refine wc_skip (qs_seq ?_)
     refine wc_sub (L' := [(19, _), (16, _), (13, _), (11, _), (10, _), (0, _), (1, _), (2, _), (3, _), (4, _)]) (.cons rfl (.cons rfl (.cons rfl (.cons rfl (.cons rfl (.cons rfl (.cons rfl (.cons rfl (.cons rfl (.cons rfl .nil)))))))))) ?_
     refine wc_region (wl_move rfl rfl (wl_move rfl rfl ?_))
     have hC28 := hS26.split [0] [true, false, false, false] rfl; dsimp only [selF, pickA, nthA, List.cons_append, List.nil_append] at hC28
     refine wl_call cal_66 rfl (rno_sp hC28 (by omega) (W.cells (kE td to)) (by have := hB (kE td to); omega)) rfl ?_
     rintro e w28 ⟨_, rfl, rfl, hS28⟩; refine ⟨_, rfl, ?_⟩
     replace hS28 := hS28.join rfl; dsimp only [List.dropLast, List.cons_append, List.nil_append] at hS28; clear hC28
     clear hS26
     refine wl_nil (qs_seq ?_)
     refine wc_sub (L' := [(19, _), (13, _), (11, _), (10, _), (0, _), (1, _), (2, _), (3, _), (4, _)]) (.cons rfl (.cons rfl (.cons rfl (.cons rfl (.cons rfl (.cons rfl (.cons rfl (.cons rfl (.cons rfl .nil))))))))) ?_
     refine wc_seq (wc_region (wl_move rfl rfl (wl_move rfl rfl (wl_move rfl rfl ?_))))
     have hC29 := hS28.split [] [false, false, false, false] rfl; dsimp only [selF, pickA, nthA, List.cons_append, List.nil_append] at hC29
     refine wl_call cal_73 rfl (rentry_sp hC29 dir name (by omega) (by omega)) rfl ?_
     rintro e w29 ⟨_, rfl, rfl, hS29⟩; refine ⟨_, rfl, ?_⟩
     replace hS29 := hS29.join rfl; dsimp only [List.dropLast, List.cons_append, List.nil_append] at hS29; clear hC29
     clear hS28
     have hC30 := hS29.split [0] [true, false, false, false] rfl; dsimp only [selF, pickA, nthA, List.cons_append, List.nil_append] at hC30
     refine wl_call cal_24 rfl (qPut hC30 (by omega) (kE dir name) []) rfl ?_
     rintro e w30 ⟨_, rfl, rfl, hS30⟩; refine ⟨_, rfl, ?_⟩
     replace hS30 := hS30.join rfl; dsimp only [List.dropLast, List.cons_append, List.nil_append] at hS30; clear hC30
     clear hS29
     refine wl_nil (qs_seq ?_)
     refine wc_sub (L' := [(19, _), (13, _), (11, _), (10, _), (0, _), (3, _), (4, _)]) (.cons rfl (.cons rfl (.cons rfl (.cons rfl (.cons rfl (.cons rfl (.cons rfl .nil))))))) ?_
     refine wc_seq (wc_region (wl_move rfl rfl (wl_move rfl rfl (wl_move rfl rfl ?_))))
     have hC31 := hS30.split [] [false, false, false, false] rfl; dsimp only [selF, pickA, nthA, List.cons_append, List.nil_append] at hC31
     refine wl_call cal_73 rfl (rentry_sp hC31 td to (by omega) (by omega)) rfl ?_
     rintro e w31 ⟨_, rfl, rfl, hS31⟩; refine ⟨_, rfl, ?_⟩
     replace hS31 := hS31.join rfl; dsimp only [List.dropLast, List.cons_append, List.nil_append] at hS31; clear hC31
     clear hS30
     refine wl_move rfl rfl ?_
     have hC32 := hS31.split [0] [true, false, false, false] rfl; dsimp only [selF, pickA, nthA, List.cons_append, List.nil_append] at hC32
     refine wl_call cal_24 rfl (qPut hC32 (by omega) (kE td to) (W.cells (kE dir name))) rfl ?_
     rintro e w32 ⟨_, rfl, rfl, hS32⟩; refine ⟨_, rfl, ?_⟩
     replace hS32 := hS32.join rfl; dsimp only [List.dropLast, List.cons_append, List.nil_append] at hS32; clear hC32
     clear hS31
     refine wl_nil (qs_seq ?_)
     refine wc_sub (L' := [(19, _), (11, _), (10, _)]) (.cons rfl (.cons rfl (.cons rfl .nil))) ?_
     refine wc_seq (wc_region (wl_move rfl rfl (wl_assign rfl rfl (wl_assign rfl rfl (wl_nil (qs_seq (wc_ret ?_)))))))
     refine fin2 (.inr rfl) rfl rfl rfl ?_
     have hL1 := look_y (W := W) hn1 hdd
     have hL2 := look_y (W := W) hn2 hdt
     have hE : renE W dir name td to = 0 := by unfold renE; rw [hL1, hL2]; rw [if_neg hc0, if_neg (fun q => q rfl), if_neg (fun q => q rfl), if_neg (fun q => by have q2 := hb3.symm.trans q; cases q2), if_neg hc4, if_neg hc5]; show repE W _ _ _ _ = _; unfold repE; rw [if_neg ht, if_pos hk, he8]
     have hrb : renE W dir name td to = 0 ∧ renB W dir name td to = true := ⟨hE, by unfold renB; rw [hL1, hL2]; simp only [Bool.and_eq_true, Bool.not_eq_true', Bool.and_eq_false_iff, decide_eq_false_iff_not]; exact ⟨by by_cases q : dir = td; exact .inr (fun q2 => hc4 (.inl ⟨q, q2⟩)); exact .inl q, fun q => hc4 (.inr q)⟩⟩
     have hSS : renS W dir name td to = [] := by unfold renS; rw [if_pos hrb, hL1, hL2]; show repS _ _ _ _ = _; unfold repS; rw [if_neg ht, if_pos hk]
     have hRW : repW W (lookV W dir name).n (lookV W td to).id (lookV W td to).n (lookV W td to).ok = noI W (W.cells (kE td to)) := by rw [hL1, hL2]; show repW W _ _ _ _ = _; unfold repW; rw [if_neg ht, if_pos hk, if_pos he8]
     exact ⟨_, rfl, by rw [hSS, hE], by unfold renW; rw [if_pos hrb, hRW, hL1]; exact refP_up (by omega) (hS32.pick [0, 3] rfl)⟩
    have ht : (bI W (W.cells (kE td to)) && decide ((W.cells (kE td to)) ≠ [])) = false := by simpa only [Bool.not_eq_true] using h25
    refine wc_skip (qs_seq ?_)
    refine wc_sub (L' := [(19, _), (13, _), (11, _), (10, _), (0, _), (1, _), (2, _), (3, _), (4, _)]) (.cons rfl (.cons rfl (.cons rfl (.cons rfl (.cons rfl (.cons rfl (.cons rfl (.cons rfl (.cons rfl .nil))))))))) ?_
    refine wc_seq (wc_region (wl_move rfl rfl (wl_move rfl rfl (wl_move rfl rfl ?_))))
    have hC33 := hS21.split [] [false, false, false, false] rfl; dsimp only [selF, pickA, nthA, List.cons_append, List.nil_append] at hC33
    refine wl_call cal_73 rfl (rentry_sp hC33 dir name (by omega) (by omega)) rfl ?_
    rintro e w33 ⟨_, rfl, rfl, hS33⟩; refine ⟨_, rfl, ?_⟩
    replace hS33 := hS33.join rfl; dsimp only [List.dropLast, List.cons_append, List.nil_append] at hS33; clear hC33
    clear hS21
    have hC34 := hS33.split [0] [true, false, false, false] rfl; dsimp only [selF, pickA, nthA, List.cons_append, List.nil_append] at hC34
    refine wl_call cal_24 rfl (qPut hC34 (by omega) (kE dir name) []) rfl ?_
    rintro e w34 ⟨_, rfl, rfl, hS34⟩; refine ⟨_, rfl, ?_⟩
    replace hS34 := hS34.join rfl; dsimp only [List.dropLast, List.cons_append, List.nil_append] at hS34; clear hC34
    clear hS33
    refine wl_nil (qs_seq ?_)
    refine wc_sub (L' := [(19, _), (13, _), (11, _), (10, _), (0, _), (3, _), (4, _)]) (.cons rfl (.cons rfl (.cons rfl (.cons rfl (.cons rfl (.cons rfl (.cons rfl .nil))))))) ?_
    refine wc_seq (wc_region (wl_move rfl rfl (wl_move rfl rfl (wl_move rfl rfl ?_))))
    have hC35 := hS34.split [] [false, false, false, false] rfl; dsimp only [selF, pickA, nthA, List.cons_append, List.nil_append] at hC35
    refine wl_call cal_73 rfl (rentry_sp hC35 td to (by omega) (by omega)) rfl ?_
    rintro e w35 ⟨_, rfl, rfl, hS35⟩; refine ⟨_, rfl, ?_⟩
    replace hS35 := hS35.join rfl; dsimp only [List.dropLast, List.cons_append, List.nil_append] at hS35; clear hC35
    clear hS34
    refine wl_move rfl rfl ?_
    have hC36 := hS35.split [0] [true, false, false, false] rfl; dsimp only [selF, pickA, nthA, List.cons_append, List.nil_append] at hC36
    refine wl_call cal_24 rfl (qPut hC36 (by omega) (kE td to) (W.cells (kE dir name))) rfl ?_
    rintro e w36 ⟨_, rfl, rfl, hS36⟩; refine ⟨_, rfl, ?_⟩
    replace hS36 := hS36.join rfl; dsimp only [List.dropLast, List.cons_append, List.nil_append] at hS36; clear hC36
    clear hS35
    refine wl_nil (qs_seq ?_)
    refine wc_sub (L' := [(19, _), (11, _), (10, _)]) (.cons rfl (.cons rfl (.cons rfl .nil))) ?_
    refine wc_seq (wc_region (wl_move rfl rfl (wl_assign rfl rfl (wl_assign rfl rfl (wl_nil (qs_seq (wc_ret ?_)))))))
    refine fin2 (.inr rfl) rfl rfl rfl ?_
    have hL1 := look_y (W := W) hn1 hdd
    have hL2 := look_y (W := W) hn2 hdt
    have hE : renE W dir name td to = 0 := by unfold renE; rw [hL1, hL2]; rw [if_neg hc0, if_neg (fun q => q rfl), if_neg (fun q => q rfl), if_neg (fun q => by have q2 := hb3.symm.trans q; cases q2), if_neg hc4, if_neg hc5]; show repE W _ _ _ _ = _; unfold repE; rw [if_pos ht]
    have hrb : renE W dir name td to = 0 ∧ renB W dir name td to = true := ⟨hE, by unfold renB; rw [hL1, hL2]; simp only [Bool.and_eq_true, Bool.not_eq_true', Bool.and_eq_false_iff, decide_eq_false_iff_not]; exact ⟨by by_cases q : dir = td; exact .inr (fun q2 => hc4 (.inl ⟨q, q2⟩)); exact .inl q, fun q => hc4 (.inr q)⟩⟩
    have hSS : renS W dir name td to = [] := by unfold renS; rw [if_pos hrb, hL1, hL2]; show repS _ _ _ _ = _; unfold repS; rw [if_pos ht]
    have hRW : repW W (lookV W dir name).n (lookV W td to).id (lookV W td to).n (lookV W td to).ok = W := by rw [hL1, hL2]; show repW W _ _ _ _ = _; unfold repW; rw [if_pos ht]
    exact ⟨_, rfl, by rw [hSS, hE], by unfold renW; rw [if_pos hrb, hRW, hL1]; exact refP_up (by omega) (hS36.pick [0, 3] rfl)⟩
   have hk : ¬ (gI' W (W.cells (kE dir name))).k = 2 := h23
   have hc5 : ¬ ((gI' W (W.cells (kE dir name))).k = 2 ∧ td ≠ dir) := fun q => hk q.1
   refine wc_seq (wc_region (wl_move rfl rfl (wl_nil (qs_seq ?_))))
   refine wc_sub (L' := [(91, _), (19, _), (16, _), (17, _), (13, _), (11, _), (10, _), (0, _), (1, _), (2, _), (3, _), (4, _)]) (.cons rfl (.cons rfl (.cons rfl (.cons rfl (.cons rfl (.cons rfl (.cons rfl (.cons rfl (.cons rfl (.cons rfl (.cons rfl (.cons rfl .nil)))))))))))) ?_
   refine wc_cond rfl (fun h37 => ?_) (fun h37 => ?_)
   ·have ht : ¬ (bI W (W.cells (kE td to)) && decide ((W.cells (kE td to)) ≠ [])) = false := by have q1 := h37; rw [q1]; decide
    refine wc_seq (wc_seq (wc_region ?_))
    refine wl_fieldAddr rfl fo_35_0 rfl ?_
    refine wl_load rfl ag_3 (by first | assumption | exact hS21.cell 1 rfl rfl | exact hS21.cell 2 rfl rfl) rfl ?_
    refine wl_eql rfl rfl rfl ?_
    refine wl_nil (qs_seq ?_)
    refine wc_sub (L' := [(94, _), (19, _), (16, _), (17, _), (13, _), (11, _), (10, _), (0, _), (1, _), (2, _), (3, _), (4, _)]) (.cons rfl (.cons rfl (.cons rfl (.cons rfl (.cons rfl (.cons rfl (.cons rfl (.cons rfl (.cons rfl (.cons rfl (.cons rfl (.cons rfl .nil)))))))))))) ?_
    refine wc_condD rfl (fun h38 => ?_) (fun h38 => ?_)
    ·refine wc_seq (wc_region (wl_assign rfl rfl (wl_assign rfl rfl (wl_nil (qs_seq (wc_ret (qs_then_ret (qs_then_ret ?_))))))))
     refine fin2 (.inr rfl) rfl rfl rfl ?_
     have hL1 := look_y (W := W) hn1 hdd
     have hL2 := look_y (W := W) hn2 hdt
     have hE : renE W dir name td to = 13 := by unfold renE; rw [hL1, hL2]; rw [if_neg hc0, if_neg (fun q => q rfl), if_neg (fun q => q rfl), if_neg (fun q => by have q2 := hb3.symm.trans q; cases q2), if_neg hc4, if_neg hc5]; show repE W _ _ _ _ = _; unfold repE; rw [if_neg ht, if_neg hk, if_pos (by assumption)]
     have hrb : ¬ (renE W dir name td to = 0 ∧ renB W dir name td to = true) := by rintro ⟨q, _⟩; rw [hE] at q; first | exact absurd q (by decide) | exact absurd q (by assumption)
     exact ⟨_, rfl, by unfold renS; rw [if_neg hrb, hE], by unfold renW; rw [if_neg hrb]; exact refP_up (by omega) (hS21.pick [0, 3] rfl)⟩
    refine wc_skip (qs_seq (wc_seq (wc_region ?_)))
    refine wl_fieldAddr rfl fo_35_2 rfl ?_
    refine wl_load rfl ag_3 (by first | assumption | exact hS21.cell 1 rfl rfl | exact hS21.cell 2 rfl rfl) rfl ?_
    refine wl_subW rfl rfl rfl rfl ?_
    refine wl_fieldAddr rfl fo_35_2 rfl ?_
    first | (refine wl_store hS21 rfl rfl sz_3 (by first | rfl | assumption) (i := 1) rfl (by first | decide | exact Nat.le_of_ble_eq_true rfl | (simp; done) | omega) ?_) | (refine wl_store hS21 rfl rfl sz_3 (by first | rfl | assumption) (i := 2) rfl (by first | decide | exact Nat.le_of_ble_eq_true rfl | (simp; done) | omega) ?_)
    intro w39 hS40; dsimp only [List.set] at hS40
    clear hS21
    refine wl_nil (qs_seq ?_)
    refine wc_sub (L' := [(19, _), (16, _), (17, _), (13, _), (11, _), (10, _), (0, _), (1, _), (2, _), (3, _), (4, _)]) (.cons rfl (.cons rfl (.cons rfl (.cons rfl (.cons rfl (.cons rfl (.cons rfl (.cons rfl (.cons rfl (.cons rfl (.cons rfl .nil))))))))))) ?_
    refine wc_seq (wc_region (wl_move rfl rfl (wl_move rfl rfl ?_)))
    refine wl_loadA rfl ag_35 sz_35 (by first | exact hS40.blk 1 rfl | exact hS40.blk 2 rfl) (by first | decide | exact Nat.le_of_ble_eq_true rfl | (simp; done) | omega) rfl rfl ?_
    have hC41 := hS40.split [0] [true, false, false, false] rfl; dsimp only [selF, pickA, nthA, List.cons_append, List.nil_append] at hC41
    refine wl_call cal_60 rfl (rset_sp hC41 (by omega) (W.cells (kE td to)) (by have := hB (kE td to); omega) (n1 := lnk (gI' W (W.cells (kE td to))) (-1)) (lnk_in (gI_in W _) (-1))) rfl ?_
    rintro e w41 ⟨_, rfl, rfl, hS41⟩; refine ⟨_, rfl, ?_⟩
    replace hS41 := hS41.join rfl; dsimp only [List.dropLast, List.cons_append, List.nil_append] at hS41; clear hC41
    clear hS40
    refine wl_nil (qs_seq ?_)
    refine wc_sub (L' := [(19, _), (16, _), (13, _), (11, _), (10, _), (0, _), (1, _), (2, _), (3, _), (4, _)]) (.cons rfl (.cons rfl (.cons rfl (.cons rfl (.cons rfl (.cons rfl (.cons rfl (.cons rfl (.cons rfl (.cons rfl .nil)))))))))) ?_
    refine wc_region (wl_move rfl rfl (wl_assign rfl rfl (wl_nil (qs_seq (wc_seq (wc_region (wl_move rfl rfl (wl_move rfl rfl (wl_move rfl rfl ?_)))))))))
    have hC42 := hS41.split [] [false, false, false, false] rfl; dsimp only [selF, pickA, nthA, List.cons_append, List.nil_append] at hC42
    refine wl_call cal_73 rfl (rentry_sp hC42 dir name (by omega) (by omega)) rfl ?_
    rintro e w42 ⟨_, rfl, rfl, hS42⟩; refine ⟨_, rfl, ?_⟩
    replace hS42 := hS42.join rfl; dsimp only [List.dropLast, List.cons_append, List.nil_append] at hS42; clear hC42
    clear hS41
    have hC43 := hS42.split [0] [true, false, false, false] rfl; dsimp only [selF, pickA, nthA, List.cons_append, List.nil_append] at hC43
    refine wl_call cal_24 rfl (qPut hC43 (by omega) (kE dir name) []) rfl ?_
    rintro e w43 ⟨_, rfl, rfl, hS43⟩; refine ⟨_, rfl, ?_⟩
    replace hS43 := hS43.join rfl; dsimp only [List.dropLast, List.cons_append, List.nil_append] at hS43; clear hC43
    clear hS42
    refine wl_nil (qs_seq ?_)
    refine wc_sub (L' := [(19, _), (13, _), (11, _), (10, _), (0, _), (3, _), (4, _)]) (.cons rfl (.cons rfl (.cons rfl (.cons rfl (.cons rfl (.cons rfl (.cons rfl .nil))))))) ?_
    refine wc_seq (wc_region (wl_move rfl rfl (wl_move rfl rfl (wl_move rfl rfl ?_))))
    have hC44 := hS43.split [] [false, false, false, false] rfl; dsimp only [selF, pickA, nthA, List.cons_append, List.nil_append] at hC44
    refine wl_call cal_73 rfl (rentry_sp hC44 td to (by omega) (by omega)) rfl ?_
    rintro e w44 ⟨_, rfl, rfl, hS44⟩; refine ⟨_, rfl, ?_⟩
    replace hS44 := hS44.join rfl; dsimp only [List.dropLast, List.cons_append, List.nil_append] at hS44; clear hC44
    clear hS43
    refine wl_move rfl rfl ?_
    have hC45 := hS44.split [0] [true, false, false, false] rfl; dsimp only [selF, pickA, nthA, List.cons_append, List.nil_append] at hC45
    refine wl_call cal_24 rfl (qPut hC45 (by omega) (kE td to) (W.cells (kE dir name))) rfl ?_
    rintro e w45 ⟨_, rfl, rfl, hS45⟩; refine ⟨_, rfl, ?_⟩
    replace hS45 := hS45.join rfl; dsimp only [List.dropLast, List.cons_append, List.nil_append] at hS45; clear hC45
    clear hS44
    refine wl_nil (qs_seq ?_)
    refine wc_sub (L' := [(19, _), (11, _), (10, _)]) (.cons rfl (.cons rfl (.cons rfl .nil))) ?_
    refine wc_seq (wc_region (wl_move rfl rfl (wl_assign rfl rfl (wl_assign rfl rfl (wl_nil (qs_seq (wc_ret ?_)))))))
    refine fin2 (.inr rfl) rfl rfl rfl ?_
    have hL1 := look_y (W := W) hn1 hdd
    have hL2 := look_y (W := W) hn2 hdt
    have hE : renE W dir name td to = 0 := by unfold renE; rw [hL1, hL2]; rw [if_neg hc0, if_neg (fun q => q rfl), if_neg (fun q => q rfl), if_neg (fun q => by have q2 := hb3.symm.trans q; cases q2), if_neg hc4, if_neg hc5]; show repE W _ _ _ _ = _; unfold repE; rw [if_neg ht, if_neg hk, if_neg (by assumption)]
    have hrb : renE W dir name td to = 0 ∧ renB W dir name td to = true := ⟨hE, by unfold renB; rw [hL1, hL2]; simp only [Bool.and_eq_true, Bool.not_eq_true', Bool.and_eq_false_iff, decide_eq_false_iff_not]; exact ⟨by by_cases q : dir = td; exact .inr (fun q2 => hc4 (.inl ⟨q, q2⟩)); exact .inl q, fun q => hc4 (.inr q)⟩⟩
    have hSS : renS W dir name td to = (W.cells (kE td to)) := by unfold renS; rw [if_pos hrb, hL1, hL2]; show repS _ _ _ _ = _; unfold repS; rw [if_neg ht, if_neg hk, if_neg (by assumption)]
    have hRW : repW W (lookV W dir name).n (lookV W td to).id (lookV W td to).n (lookV W td to).ok = setI W (W.cells (kE td to)) (lnk (gI' W (W.cells (kE td to))) (-1)) := by rw [hL1, hL2]; show repW W _ _ _ _ = _; unfold repW; rw [if_neg ht, if_neg hk, if_neg (by assumption)]
    exact ⟨_, rfl, by rw [hSS, hE], by unfold renW; rw [if_pos hrb, hRW, hL1]; exact refP_up (by omega) (hS45.pick [0, 3] rfl)⟩
   have ht : (bI W (W.cells (kE td to)) && decide ((W.cells (kE td to)) ≠ [])) = false := by simpa only [Bool.not_eq_true] using h37
   refine wc_skip (qs_seq ?_)
   refine wc_sub (L' := [(19, _), (13, _), (11, _), (10, _), (0, _), (1, _), (2, _), (3, _), (4, _)]) (.cons rfl (.cons rfl (.cons rfl (.cons rfl (.cons rfl (.cons rfl (.cons rfl (.cons rfl (.cons rfl .nil))))))))) ?_
   refine wc_seq (wc_region (wl_move rfl rfl (wl_move rfl rfl (wl_move rfl rfl ?_))))
   have hC46 := hS21.split [] [false, false, false, false] rfl; dsimp only [selF, pickA, nthA, List.cons_append, List.nil_append] at hC46
   refine wl_call cal_73 rfl (rentry_sp hC46 dir name (by omega) (by omega)) rfl ?_
   rintro e w46 ⟨_, rfl, rfl, hS46⟩; refine ⟨_, rfl, ?_⟩
   replace hS46 := hS46.join rfl; dsimp only [List.dropLast, List.cons_append, List.nil_append] at hS46; clear hC46
   clear hS21
   have hC47 := hS46.split [0] [true, false, false, false] rfl; dsimp only [selF, pickA, nthA, List.cons_append, List.nil_append] at hC47
   refine wl_call cal_24 rfl (qPut hC47 (by omega) (kE dir name) []) rfl ?_
   rintro e w47 ⟨_, rfl, rfl, hS47⟩; refine ⟨_, rfl, ?_⟩
   replace hS47 := hS47.join rfl; dsimp only [List.dropLast, List.cons_append, List.nil_append] at hS47; clear hC47
   clear hS46
   refine wl_nil (qs_seq ?_)
   refine wc_sub (L' := [(19, _), (13, _), (11, _), (10, _), (0, _), (3, _), (4, _)]) (.cons rfl (.cons rfl (.cons rfl (.cons rfl (.cons rfl (.cons rfl (.cons rfl .nil))))))) ?_
   refine wc_seq (wc_region (wl_move rfl rfl (wl_move rfl rfl (wl_move rfl rfl ?_))))
   have hC48 := hS47.split [] [false, false, false, false] rfl; dsimp only [selF, pickA, nthA, List.cons_append, List.nil_append] at hC48
   refine wl_call cal_73 rfl (rentry_sp hC48 td to (by omega) (by omega)) rfl ?_
   rintro e w48 ⟨_, rfl, rfl, hS48⟩; refine ⟨_, rfl, ?_⟩
   replace hS48 := hS48.join rfl; dsimp only [List.dropLast, List.cons_append, List.nil_append] at hS48; clear hC48
   clear hS47
   refine wl_move rfl rfl ?_
   have hC49 := hS48.split [0] [true, false, false, false] rfl; dsimp only [selF, pickA, nthA, List.cons_append, List.nil_append] at hC49
   refine wl_call cal_24 rfl (qPut hC49 (by omega) (kE td to) (W.cells (kE dir name))) rfl ?_
   rintro e w49 ⟨_, rfl, rfl, hS49⟩; refine ⟨_, rfl, ?_⟩
   replace hS49 := hS49.join rfl; dsimp only [List.dropLast, List.cons_append, List.nil_append] at hS49; clear hC49
   clear hS48
   refine wl_nil (qs_seq ?_)
   refine wc_sub (L' := [(19, _), (11, _), (10, _)]) (.cons rfl (.cons rfl (.cons rfl .nil))) ?_
   refine wc_seq (wc_region (wl_move rfl rfl (wl_assign rfl rfl (wl_assign rfl rfl (wl_nil (qs_seq (wc_ret ?_)))))))
   refine fin2 (.inr rfl) rfl rfl rfl ?_
   have hL1 := look_y (W := W) hn1 hdd
   have hL2 := look_y (W := W) hn2 hdt
   have hE : renE W dir name td to = 0 := by unfold renE; rw [hL1, hL2]; rw [if_neg hc0, if_neg (fun q => q rfl), if_neg (fun q => q rfl), if_neg (fun q => by have q2 := hb3.symm.trans q; cases q2), if_neg hc4, if_neg hc5]; show repE W _ _ _ _ = _; unfold repE; rw [if_pos ht]
   have hrb : renE W dir name td to = 0 ∧ renB W dir name td to = true := ⟨hE, by unfold renB; rw [hL1, hL2]; simp only [Bool.and_eq_true, Bool.not_eq_true', Bool.and_eq_false_iff, decide_eq_false_iff_not]; exact ⟨by by_cases q : dir = td; exact .inr (fun q2 => hc4 (.inl ⟨q, q2⟩)); exact .inl q, fun q => hc4 (.inr q)⟩⟩
   have hSS : renS W dir name td to = [] := by unfold renS; rw [if_pos hrb, hL1, hL2]; show repS _ _ _ _ = _; unfold repS; rw [if_pos ht]
   have hRW : repW W (lookV W dir name).n (lookV W td to).id (lookV W td to).n (lookV W td to).ok = W := by rw [hL1, hL2]; show repW W _ _ _ _ = _; unfold repW; rw [if_pos ht]
   exact ⟨_, rfl, by rw [hSS, hE], by unfold renW; rw [if_pos hrb, hRW, hL1]; exact refP_up (by omega) (hS49.pick [0, 3] rfl)⟩
  have hdt4 : ¬ dir = td := h18
  refine wl_unwanted rfl rfl (decide_eq_false h18) rfl ?_
  refine wl_unwanted rfl rfl (decide_eq_false h18) rfl ?_
  refine wl_unwanted rfl rfl (decide_eq_false h18) rfl ?_
  refine wl_pickF rfl (decide_eq_false h18) rfl rfl ?_
  refine wl_move rfl rfl ?_
  refine wl_guard rfl rfl rfl ?_
  refine wl_move rfl rfl ?_
  refine wl_guard rfl rfl rfl ?_
  refine wl_move rfl rfl ?_
  refine wl_guard rfl rfl rfl ?_
  refine wl_move rfl rfl ?_
  refine wl_guard rfl rfl rfl ?_
  have hC50 := hS17.split [] [false, false, false, false] rfl; dsimp only [selF, pickA, nthA, List.cons_append, List.nil_append] at hC50
  refine wl_call cal_73 rfl (rentry_sp hC50 td to (by omega) (by omega)) rfl ?_
  rintro e w50 ⟨_, rfl, rfl, hS50⟩; refine ⟨_, rfl, ?_⟩
  replace hS50 := hS50.join rfl; dsimp only [List.dropLast, List.cons_append, List.nil_append] at hS50; clear hC50
  clear hS17
  refine wl_guard rfl rfl rfl ?_
  have hC51 := hS50.split [1] [false, true, false, false] rfl; dsimp only [selF, pickA, nthA, List.cons_append, List.nil_append] at hC51
  refine wl_call cal_77 rfl (qGet hC51 (by omega) (kE td to)) rfl ?_
  rintro e w51 ⟨_, rfl, rfl, hS51⟩; refine ⟨_, rfl, ?_⟩
  replace hS51 := hS51.join rfl; dsimp only [List.dropLast, List.cons_append, List.nil_append] at hS51; clear hC51
  clear hS50
  refine wl_guard rfl rfl rfl ?_
  refine wl_move rfl rfl ?_
  refine wl_guard rfl rfl rfl ?_
  refine wl_eqlS rfl rfl rfl ?_
  refine wl_pickF rfl rfl rfl rfl ?_
  refine wl_nil (qs_seq ?_)
  refine wc_sub (L' := [(73, _), (18, _), (16, _), (17, _), (13, _), (14, _), (12, _), (11, _), (10, _), (0, _), (1, _), (2, _), (3, _), (4, _)]) (.cons rfl (.cons rfl (.cons rfl (.cons rfl (.cons rfl (.cons rfl (.cons rfl (.cons rfl (.cons rfl (.cons rfl (.cons rfl (.cons rfl (.cons rfl (.cons rfl .nil)))))))))))))) ?_
  refine wc_condD rfl (fun h52 => ?_) (fun h52 => ?_)
  ·have hc4 : (dir = td ∧ name = to) ∨ (W.cells (kE dir name)) = (W.cells (kE td to)) := .inr (Eq.symm h52)
   refine wc_seq (wc_region (wl_assign rfl rfl (wl_assign rfl rfl (wl_nil (qs_seq (wc_ret (qs_then_ret ?_)))))))
   refine fin2 (.inr rfl) rfl rfl rfl ?_
   have hL1 := look_y (W := W) hn1 hdd
   have hL2 := look_y (W := W) hn2 hdt
   have hE : renE W dir name td to = 0 := by unfold renE; rw [hL1, hL2]; rw [if_neg hc0, if_neg (fun q => q rfl), if_neg (fun q => q rfl), if_neg (fun q => by have q2 := hb3.symm.trans q; cases q2), if_pos hc4]
   have hrb : ¬ (renE W dir name td to = 0 ∧ renB W dir name td to = true) := by rintro ⟨_, q⟩; unfold renB at q; rw [hL1, hL2] at q; rcases hc4 with ⟨q1, q2⟩ | q1; (subst q1; subst q2; simp at q); (rw [q1] at q; simp at q)
   exact ⟨_, rfl, by unfold renS; rw [if_neg hrb, hE], by unfold renW; rw [if_neg hrb]; exact refP_up (by omega) (hS51.pick [0, 3] rfl)⟩
  have hc4 : ¬ ((dir = td ∧ name = to) ∨ (W.cells (kE dir name)) = (W.cells (kE td to))) := by rintro (⟨q1, q2⟩ | q); (first | exact absurd q1 (by assumption) | exact absurd q2 (by assumption)); exact absurd q.symm h52
  refine wc_skip (qs_seq (wc_seq (wc_region (wl_assign rfl rfl (wl_nil (qs_seq (wc_seq (wc_seq (wc_region ?_)))))))))
  refine wl_fieldAddr rfl fo_35_0 rfl ?_
  refine wl_load rfl ag_3 (by first | assumption | exact hS51.cell 1 rfl rfl | exact hS51.cell 2 rfl rfl) rfl ?_
  refine wl_eql rfl rfl rfl ?_
  refine wl_nil (qs_seq ?_)
  refine wc_sub (L' := [(76, _), (19, _), (18, _), (16, _), (17, _), (13, _), (12, _), (11, _), (10, _), (0, _), (1, _), (2, _), (3, _), (4, _)]) (.cons rfl (.cons rfl (.cons rfl (.cons rfl (.cons rfl (.cons rfl (.cons rfl (.cons rfl (.cons rfl (.cons rfl (.cons rfl (.cons rfl (.cons rfl (.cons rfl .nil)))))))))))))) ?_
  refine wc_condD rfl (fun h53 => ?_) (fun h53 => ?_)
  ·have hk : (gI' W (W.cells (kE dir name))).k = 2 := h53
   refine wc_seq (wc_seq (wc_region (wl_move rfl rfl (wl_move rfl rfl ?_))))
   refine wl_neqS rfl rfl rfl ?_
   refine wl_nil (qs_seq ?_)
   refine wc_sub (L' := [(79, _), (19, _), (18, _), (16, _), (17, _), (13, _), (12, _), (11, _), (10, _), (0, _), (1, _), (2, _), (3, _), (4, _)]) (.cons rfl (.cons rfl (.cons rfl (.cons rfl (.cons rfl (.cons rfl (.cons rfl (.cons rfl (.cons rfl (.cons rfl (.cons rfl (.cons rfl (.cons rfl (.cons rfl .nil)))))))))))))) ?_
   refine wc_condD rfl (fun h54 => ?_) (fun h54 => ?_)
   ·have hc5 : (gI' W (W.cells (kE dir name))).k = 2 ∧ td ≠ dir := ⟨hk, h54⟩
    refine wc_seq (wc_region (wl_assign rfl rfl (wl_assign rfl rfl (wl_nil (qs_seq (wc_ret (qs_then_ret (qs_then_ret ?_))))))))
    refine fin2 (.inr rfl) rfl rfl rfl ?_
    have hL1 := look_y (W := W) hn1 hdd
    have hL2 := look_y (W := W) hn2 hdt
    have hE : renE W dir name td to = 1 := by unfold renE; rw [hL1, hL2]; rw [if_neg hc0, if_neg (fun q => q rfl), if_neg (fun q => q rfl), if_neg (fun q => by have q2 := hb3.symm.trans q; cases q2), if_neg hc4, if_pos hc5]
    have hrb : ¬ (renE W dir name td to = 0 ∧ renB W dir name td to = true) := by rintro ⟨q, _⟩; rw [hE] at q; first | exact absurd q (by decide) | exact absurd q (by assumption)
    exact ⟨_, rfl, by unfold renS; rw [if_neg hrb, hE], by unfold renW; rw [if_neg hrb]; exact refP_up (by omega) (hS51.pick [0, 3] rfl)⟩
   have hc5 : ¬ ((gI' W (W.cells (kE dir name))).k = 2 ∧ td ≠ dir) := fun q => h54 q.2
   refine wc_skip (qs_seq (wc_seq (wc_region (wl_move rfl rfl (wl_nil (qs_seq ?_))))))
   refine wc_cond rfl (fun h55 => ?_) (fun h55 => ?_)
   ·have ht : ¬ (bI W (W.cells (kE td to)) && decide ((W.cells (kE td to)) ≠ [])) = false := by have q1 := h55; rw [q1]; decide
    refine wc_seq (wc_region (wl_move rfl rfl (wl_move rfl rfl ?_)))
    refine wl_loadA rfl ag_35 sz_35 (by first | exact hS51.blk 1 rfl | exact hS51.blk 2 rfl) (by first | decide | exact Nat.le_of_ble_eq_true rfl | (simp; done) | omega) rfl rfl ?_
    have hC56 := hS51.split [0] [true, false, false, false] rfl; dsimp only [selF, pickA, nthA, List.cons_append, List.nil_append] at hC56
    refine wl_call cal_99 rfl (rempty_sp hC56 (by omega) (W.cells (kE td to)) (by have := hB (kE td to); omega) (gI' W (W.cells (kE td to)))) rfl ?_
    rintro e w56 ⟨_, rfl, rfl, hS56⟩; refine ⟨_, rfl, ?_⟩
    replace hS56 := hS56.join rfl; dsimp only [List.dropLast, List.cons_append, List.nil_append] at hS56; clear hC56
    clear hS51
    refine wl_assign rfl rfl (wl_nil (qs_seq ?_))
    refine wc_sub (L' := [(12, _), (19, _), (16, _), (13, _), (11, _), (10, _), (0, _), (1, _), (2, _), (3, _), (4, _)]) (.cons rfl (.cons rfl (.cons rfl (.cons rfl (.cons rfl (.cons rfl (.cons rfl (.cons rfl (.cons rfl (.cons rfl (.cons rfl .nil))))))))))) ?_
    refine wc_seq (wc_seq (wc_region (wl_move rfl rfl ?_)))
    refine wl_neq rfl rfl rfl ?_
    refine wl_nil (qs_seq ?_)
    refine wc_condD rfl (fun h57 => ?_) (fun h57 => ?_)
    ·refine wc_seq (wc_region (wl_move rfl rfl (wl_assign rfl rfl (wl_assign rfl rfl (wl_nil (qs_seq ?_))))))
     refine wc_sub (L' := [(11, _), (10, _), (19, _), (16, _), (13, _), (0, _), (1, _), (2, _), (3, _), (4, _)]) (.cons rfl (.cons rfl (.cons rfl (.cons rfl (.cons rfl (.cons rfl (.cons rfl (.cons rfl (.cons rfl (.cons rfl .nil)))))))))) ?_
     refine wc_ret (qs_then_ret (qs_then_ret ?_))
     refine fin2 (.inr rfl) rfl rfl rfl ?_
     have hL1 := look_y (W := W) hn1 hdd
     have hL2 := look_y (W := W) hn2 hdt
     have hE : renE W dir name td to = empE W (W.cells (kE td to)) (gI' W (W.cells (kE td to))) := by unfold renE; rw [hL1, hL2]; rw [if_neg hc0, if_neg (fun q => q rfl), if_neg (fun q => q rfl), if_neg (fun q => by have q2 := hb3.symm.trans q; cases q2), if_neg hc4, if_neg hc5]; show repE W _ _ _ _ = _; unfold repE; rw [if_neg ht, if_pos hk]
     have hrb : ¬ (renE W dir name td to = 0 ∧ renB W dir name td to = true) := by rintro ⟨q, _⟩; rw [hE] at q; first | exact absurd q (by decide) | exact absurd q (by assumption)
     exact ⟨_, rfl, by unfold renS; rw [if_neg hrb, hE], by unfold renW; rw [if_neg hrb]; exact refP_up (by omega) (hS56.pick [0, 3] rfl)⟩
    have he8 : empE W (W.cells (kE td to)) (gI' W (W.cells (kE td to))) = 0 := Decidable.not_not.1 h57
    refine wc_skip (qs_seq ?_)
    refine wc_sub (L' := [(19, _), (16, _), (13, _), (11, _), (10, _), (0, _), (1, _), (2, _), (3, _), (4, _)]) (.cons rfl (.cons rfl (.cons rfl (.cons rfl (.cons rfl (.cons rfl (.cons rfl (.cons rfl (.cons rfl (.cons rfl .nil)))))))))) ?_
    refine wc_region (wl_move rfl rfl (wl_move rfl rfl ?_))
    have hC58 := hS56.split [0] [true, false, false, false] rfl; dsimp only [selF, pickA, nthA, List.cons_append, List.nil_append] at hC58
    refine wl_call cal_66 rfl (rno_sp hC58 (by omega) (W.cells (kE td to)) (by have := hB (kE td to); omega)) rfl ?_
    rintro e w58 ⟨_, rfl, rfl, hS58⟩; refine ⟨_, rfl, ?_⟩
    replace hS58 := hS58.join rfl; dsimp only [List.dropLast, List.cons_append, List.nil_append] at hS58; clear hC58
    clear hS56
    refine wl_nil (qs_seq ?_)
    refine wc_sub (L' := [(19, _), (13, _), (11, _), (10, _), (0, _), (1, _), (2, _), (3, _), (4, _)]) (.cons rfl (.cons rfl (.cons rfl (.cons rfl (.cons rfl (.cons rfl (.cons rfl (.cons rfl (.cons rfl .nil))))))))) ?_
    refine wc_seq (wc_region (wl_move rfl rfl (wl_move rfl rfl (wl_move rfl rfl ?_))))
    have hC59 := hS58.split [] [false, false, false, false] rfl; dsimp only [selF, pickA, nthA, List.cons_append, List.nil_append] at hC59
    refine wl_call cal_73 rfl (rentry_sp hC59 dir name (by omega) (by omega)) rfl ?_
    rintro e w59 ⟨_, rfl, rfl, hS59⟩; refine ⟨_, rfl, ?_⟩
    replace hS59 := hS59.join rfl; dsimp only [List.dropLast, List.cons_append, List.nil_append] at hS59; clear hC59
    clear hS58
    have hC60 := hS59.split [0] [true, false, false, false] rfl; dsimp only [selF, pickA, nthA, List.cons_append, List.nil_append] at hC60
    refine wl_call cal_24 rfl (qPut hC60 (by omega) (kE dir name) []) rfl ?_
    rintro e w60 ⟨_, rfl, rfl, hS60⟩; refine ⟨_, rfl, ?_⟩
    replace hS60 := hS60.join rfl; dsimp only [List.dropLast, List.cons_append, List.nil_append] at hS60; clear hC60
    clear hS59
    refine wl_nil (qs_seq ?_)
    refine wc_sub (L' := [(19, _), (13, _), (11, _), (10, _), (0, _), (3, _), (4, _)]) (.cons rfl (.cons rfl (.cons rfl (.cons rfl (.cons rfl (.cons rfl (.cons rfl .nil))))))) ?_
    refine wc_seq (wc_region (wl_move rfl rfl (wl_move rfl rfl (wl_move rfl rfl ?_))))
    have hC61 := hS60.split [] [false, false, false, false] rfl; dsimp only [selF, pickA, nthA, List.cons_append, List.nil_append] at hC61
    refine wl_call cal_73 rfl (rentry_sp hC61 td to (by omega) (by omega)) rfl ?_
    rintro e w61 ⟨_, rfl, rfl, hS61⟩; refine ⟨_, rfl, ?_⟩
    replace hS61 := hS61.join rfl; dsimp only [List.dropLast, List.cons_append, List.nil_append] at hS61; clear hC61
    clear hS60
    refine wl_move rfl rfl ?_
    have hC62 := hS61.split [0] [true, false, false, false] rfl; dsimp only [selF, pickA, nthA, List.cons_append, List.nil_append] at hC62
    refine wl_call cal_24 rfl (qPut hC62 (by omega) (kE td to) (W.cells (kE dir name))) rfl ?_
    rintro e w62 ⟨_, rfl, rfl, hS62⟩; refine ⟨_, rfl, ?_⟩
    replace hS62 := hS62.join rfl; dsimp only [List.dropLast, List.cons_append, List.nil_append] at hS62; clear hC62
    clear hS61
    refine wl_nil (qs_seq ?_)
    refine wc_sub (L' := [(19, _), (11, _), (10, _)]) (.cons rfl (.cons rfl (.cons rfl .nil))) ?_
    refine wc_seq (wc_region (wl_move rfl rfl (wl_assign rfl rfl (wl_assign rfl rfl (wl_nil (qs_seq (wc_ret ?_)))))))
    refine fin2 (.inr rfl) rfl rfl rfl ?_
    have hL1 := look_y (W := W) hn1 hdd
    have hL2 := look_y (W := W) hn2 hdt
    have hE : renE W dir name td to = 0 := by unfold renE; rw [hL1, hL2]; rw [if_neg hc0, if_neg (fun q => q rfl), if_neg (fun q => q rfl), if_neg (fun q => by have q2 := hb3.symm.trans q; cases q2), if_neg hc4, if_neg hc5]; show repE W _ _ _ _ = _; unfold repE; rw [if_neg ht, if_pos hk, he8]
    have hrb : renE W dir name td to = 0 ∧ renB W dir name td to = true := ⟨hE, by unfold renB; rw [hL1, hL2]; simp only [Bool.and_eq_true, Bool.not_eq_true', Bool.and_eq_false_iff, decide_eq_false_iff_not]; exact ⟨by by_cases q : dir = td; exact .inr (fun q2 => hc4 (.inl ⟨q, q2⟩)); exact .inl q, fun q => hc4 (.inr q)⟩⟩
    have hSS : renS W dir name td to = [] := by unfold renS; rw [if_pos hrb, hL1, hL2]; show repS _ _ _ _ = _; unfold repS; rw [if_neg ht, if_pos hk]
    have hRW : repW W (lookV W dir name).n (lookV W td to).id (lookV W td to).n (lookV W td to).ok = noI W (W.cells (kE td to)) := by rw [hL1, hL2]; show repW W _ _ _ _ = _; unfold repW; rw [if_neg ht, if_pos hk, if_pos he8]
    exact ⟨_, rfl, by rw [hSS, hE], by unfold renW; rw [if_pos hrb, hRW, hL1]; exact refP_up (by omega) (hS62.pick [0, 3] rfl)⟩
   have ht : (bI W (W.cells (kE td to)) && decide ((W.cells (kE td to)) ≠ [])) = false := by simpa only [Bool.not_eq_true] using h55
   refine wc_skip (qs_seq ?_)
   refine wc_sub (L' := [(19, _), (13, _), (11, _), (10, _), (0, _), (1, _), (2, _), (3, _), (4, _)]) (.cons rfl (.cons rfl (.cons rfl (.cons rfl (.cons rfl (.cons rfl (.cons rfl (.cons rfl (.cons rfl .nil))))))))) ?_
   refine wc_seq (wc_region (wl_move rfl rfl (wl_move rfl rfl (wl_move rfl rfl ?_))))
   have hC63 := hS51.split [] [false, false, false, false] rfl; dsimp only [selF, pickA, nthA, List.cons_append, List.nil_append] at hC63
   refine wl_call cal_73 rfl (rentry_sp hC63 dir name (by omega) (by omega)) rfl ?_
   rintro e w63 ⟨_, rfl, rfl, hS63⟩; refine ⟨_, rfl, ?_⟩
   replace hS63 := hS63.join rfl; dsimp only [List.dropLast, List.cons_append, List.nil_append] at hS63; clear hC63
   clear hS51
   have hC64 := hS63.split [0] [true, false, false, false] rfl; dsimp only [selF, pickA, nthA, List.cons_append, List.nil_append] at hC64
   refine wl_call cal_24 rfl (qPut hC64 (by omega) (kE dir name) []) rfl ?_
   rintro e w64 ⟨_, rfl, rfl, hS64⟩; refine ⟨_, rfl, ?_⟩
   replace hS64 := hS64.join rfl; dsimp only [List.dropLast, List.cons_append, List.nil_append] at hS64; clear hC64
   clear hS63
   refine wl_nil (qs_seq ?_)
   refine wc_sub (L' := [(19, _), (13, _), (11, _), (10, _), (0, _), (3, _), (4, _)]) (.cons rfl (.cons rfl (.cons rfl (.cons rfl (.cons rfl (.cons rfl (.cons rfl .nil))))))) ?_
   refine wc_seq (wc_region (wl_move rfl rfl (wl_move rfl rfl (wl_move rfl rfl ?_))))
   have hC65 := hS64.split [] [false, false, false, false] rfl; dsimp only [selF, pickA, nthA, List.cons_append, List.nil_append] at hC65
   refine wl_call cal_73 rfl (rentry_sp hC65 td to (by omega) (by omega)) rfl ?_
   rintro e w65 ⟨_, rfl, rfl, hS65⟩; refine ⟨_, rfl, ?_⟩
   replace hS65 := hS65.join rfl; dsimp only [List.dropLast, List.cons_append, List.nil_append] at hS65; clear hC65
   clear hS64
   refine wl_move rfl rfl ?_
   have hC66 := hS65.split [0] [true, false, false, false] rfl; dsimp only [selF, pickA, nthA, List.cons_append, List.nil_append] at hC66
   refine wl_call cal_24 rfl (qPut hC66 (by omega) (kE td to) (W.cells (kE dir name))) rfl ?_
   rintro e w66 ⟨_, rfl, rfl, hS66⟩; refine ⟨_, rfl, ?_⟩
   replace hS66 := hS66.join rfl; dsimp only [List.dropLast, List.cons_append, List.nil_append] at hS66; clear hC66
   clear hS65
   refine wl_nil (qs_seq ?_)
   refine wc_sub (L' := [(19, _), (11, _), (10, _)]) (.cons rfl (.cons rfl (.cons rfl .nil))) ?_
   refine wc_seq (wc_region (wl_move rfl rfl (wl_assign rfl rfl (wl_assign rfl rfl (wl_nil (qs_seq (wc_ret ?_)))))))
   refine fin2 (.inr rfl) rfl rfl rfl ?_
   have hL1 := look_y (W := W) hn1 hdd
   have hL2 := look_y (W := W) hn2 hdt
   have hE : renE W dir name td to = 0 := by unfold renE; rw [hL1, hL2]; rw [if_neg hc0, if_neg (fun q => q rfl), if_neg (fun q => q rfl), if_neg (fun q => by have q2 := hb3.symm.trans q; cases q2), if_neg hc4, if_neg hc5]; show repE W _ _ _ _ = _; unfold repE; rw [if_pos ht]
   have hrb : renE W dir name td to = 0 ∧ renB W dir name td to = true := ⟨hE, by unfold renB; rw [hL1, hL2]; simp only [Bool.and_eq_true, Bool.not_eq_true', Bool.and_eq_false_iff, decide_eq_false_iff_not]; exact ⟨by by_cases q : dir = td; exact .inr (fun q2 => hc4 (.inl ⟨q, q2⟩)); exact .inl q, fun q => hc4 (.inr q)⟩⟩
   have hSS : renS W dir name td to = [] := by unfold renS; rw [if_pos hrb, hL1, hL2]; show repS _ _ _ _ = _; unfold repS; rw [if_pos ht]
   have hRW : repW W (lookV W dir name).n (lookV W td to).id (lookV W td to).n (lookV W td to).ok = W := by rw [hL1, hL2]; show repW W _ _ _ _ = _; unfold repW; rw [if_pos ht]
   exact ⟨_, rfl, by rw [hSS, hE], by unfold renW; rw [if_pos hrb, hRW, hL1]; exact refP_up (by omega) (hS66.pick [0, 3] rfl)⟩
  have hk : ¬ (gI' W (W.cells (kE dir name))).k = 2 := h53
  have hc5 : ¬ ((gI' W (W.cells (kE dir name))).k = 2 ∧ td ≠ dir) := fun q => hk q.1
  refine wc_seq (wc_region (wl_move rfl rfl (wl_nil (qs_seq ?_))))
  refine wc_sub (L' := [(91, _), (19, _), (16, _), (17, _), (13, _), (11, _), (10, _), (0, _), (1, _), (2, _), (3, _), (4, _)]) (.cons rfl (.cons rfl (.cons rfl (.cons rfl (.cons rfl (.cons rfl (.cons rfl (.cons rfl (.cons rfl (.cons rfl (.cons rfl (.cons rfl .nil)))))))))))) ?_
  refine wc_cond rfl (fun h67 => ?_) (fun h67 => ?_)
  ·have ht : ¬ (bI W (W.cells (kE td to)) && decide ((W.cells (kE td to)) ≠ [])) = false := by have q1 := h67; rw [q1]; decide
   refine wc_seq (wc_seq (wc_region ?_))
   refine wl_fieldAddr rfl fo_35_0 rfl ?_
   refine wl_load rfl ag_3 (by first | assumption | exact hS51.cell 1 rfl rfl | exact hS51.cell 2 rfl rfl) rfl ?_
   refine wl_eql rfl rfl rfl ?_
   refine wl_nil (qs_seq ?_)
   refine wc_sub (L' := [(94, _), (19, _), (16, _), (17, _), (13, _), (11, _), (10, _), (0, _), (1, _), (2, _), (3, _), (4, _)]) (.cons rfl (.cons rfl (.cons rfl (.cons rfl (.cons rfl (.cons rfl (.cons rfl (.cons rfl (.cons rfl (.cons rfl (.cons rfl (.cons rfl .nil)))))))))))) ?_
   refine wc_condD rfl (fun h68 => ?_) (fun h68 => ?_)
   ·refine wc_seq (wc_region (wl_assign rfl rfl (wl_assign rfl rfl (wl_nil (qs_seq (wc_ret (qs_then_ret (qs_then_ret ?_))))))))
    refine fin2 (.inr rfl) rfl rfl rfl ?_
    have hL1 := look_y (W := W) hn1 hdd
    have hL2 := look_y (W := W) hn2 hdt
    have hE : renE W dir name td to = 13 := by unfold renE; rw [hL1, hL2]; rw [if_neg hc0, if_neg (fun q => q rfl), if_neg (fun q => q rfl), if_neg (fun q => by have q2 := hb3.symm.trans q; cases q2), if_neg hc4, if_neg hc5]; show repE W _ _ _ _ = _; unfold repE; rw [if_neg ht, if_neg hk, if_pos (by assumption)]
    have hrb : ¬ (renE W dir name td to = 0 ∧ renB W dir name td to = true) := by rintro ⟨q, _⟩; rw [hE] at q; first | exact absurd q (by decide) | exact absurd q (by assumption)
    exact ⟨_, rfl, by unfold renS; rw [if_neg hrb, hE], by unfold renW; rw [if_neg hrb]; exact refP_up (by omega) (hS51.pick [0, 3] rfl)⟩
   refine wc_skip (qs_seq (wc_seq (wc_region ?_)))
   refine wl_fieldAddr rfl fo_35_2 rfl ?_
   refine wl_load rfl ag_3 (by first | assumption | exact hS51.cell 1 rfl rfl | exact hS51.cell 2 rfl rfl) rfl ?_
   refine wl_subW rfl rfl rfl rfl ?_
   refine wl_fieldAddr rfl fo_35_2 rfl ?_
   first | (refine wl_store hS51 rfl rfl sz_3 (by first | rfl | assumption) (i := 1) rfl (by first | decide | exact Nat.le_of_ble_eq_true rfl | (simp; done) | omega) ?_) | (refine wl_store hS51 rfl rfl sz_3 (by first | rfl | assumption) (i := 2) rfl (by first | decide | exact Nat.le_of_ble_eq_true rfl | (simp; done) | omega) ?_)
   intro w69 hS70; dsimp only [List.set] at hS70
   clear hS51
   refine wl_nil (qs_seq ?_)
   refine wc_sub (L' := [(19, _), (16, _), (17, _), (13, _), (11, _), (10, _), (0, _), (1, _), (2, _), (3, _), (4, _)]) (.cons rfl (.cons rfl (.cons rfl (.cons rfl (.cons rfl (.cons rfl (.cons rfl (.cons rfl (.cons rfl (.cons rfl (.cons rfl .nil))))))))))) ?_
   refine wc_seq (wc_region (wl_move rfl rfl (wl_move rfl rfl ?_)))
   refine wl_loadA rfl ag_35 sz_35 (by first | exact hS70.blk 1 rfl | exact hS70.blk 2 rfl) (by first | decide | exact Nat.le_of_ble_eq_true rfl | (simp; done) | omega) rfl rfl ?_
   have hC71 := hS70.split [0] [true, false, false, false] rfl; dsimp only [selF, pickA, nthA, List.cons_append, List.nil_append] at hC71
   refine wl_call cal_60 rfl (rset_sp hC71 (by omega) (W.cells (kE td to)) (by have := hB (kE td to); omega) (n1 := lnk (gI' W (W.cells (kE td to))) (-1)) (lnk_in (gI_in W _) (-1))) rfl ?_
   rintro e w71 ⟨_, rfl, rfl, hS71⟩; refine ⟨_, rfl, ?_⟩
   replace hS71 := hS71.join rfl; dsimp only [List.dropLast, List.cons_append, List.nil_append] at hS71; clear hC71
   clear hS70
   refine wl_nil (qs_seq ?_)
   refine wc_sub (L' := [(19, _), (16, _), (13, _), (11, _), (10, _), (0, _), (1, _), (2, _), (3, _), (4, _)]) (.cons rfl (.cons rfl (.cons rfl (.cons rfl (.cons rfl (.cons rfl (.cons rfl (.cons rfl (.cons rfl (.cons rfl .nil)))))))))) ?_
   refine wc_region (wl_move rfl rfl (wl_assign rfl rfl (wl_nil (qs_seq (wc_seq (wc_region (wl_move rfl rfl (wl_move rfl rfl (wl_move rfl rfl ?_)))))))))
   have hC72 := hS71.split [] [false, false, false, false] rfl; dsimp only [selF, pickA, nthA, List.cons_append, List.nil_append] at hC72
   refine wl_call cal_73 rfl (rentry_sp hC72 dir name (by omega) (by omega)) rfl ?_
   rintro e w72 ⟨_, rfl, rfl, hS72⟩; refine ⟨_, rfl, ?_⟩
   replace hS72 := hS72.join rfl; dsimp only [List.dropLast, List.cons_append, List.nil_append] at hS72; clear hC72
   clear hS71
   have hC73 := hS72.split [0] [true, false, false, false] rfl; dsimp only [selF, pickA, nthA, List.cons_append, List.nil_append] at hC73
   refine wl_call cal_24 rfl (qPut hC73 (by omega) (kE dir name) []) rfl ?_
   rintro e w73 ⟨_, rfl, rfl, hS73⟩; refine ⟨_, rfl, ?_⟩
   replace hS73 := hS73.join rfl; dsimp only [List.dropLast, List.cons_append, List.nil_append] at hS73; clear hC73
   clear hS72
   refine wl_nil (qs_seq ?_)
   refine wc_sub (L' := [(19, _), (13, _), (11, _), (10, _), (0, _), (3, _), (4, _)]) (.cons rfl (.cons rfl (.cons rfl (.cons rfl (.cons rfl (.cons rfl (.cons rfl .nil))))))) ?_
   refine wc_seq (wc_region (wl_move rfl rfl (wl_move rfl rfl (wl_move rfl rfl ?_))))
   have hC74 := hS73.split [] [false, false, false, false] rfl; dsimp only [selF, pickA, nthA, List.cons_append, List.nil_append] at hC74
   refine wl_call cal_73 rfl (rentry_sp hC74 td to (by omega) (by omega)) rfl ?_
   rintro e w74 ⟨_, rfl, rfl, hS74⟩; refine ⟨_, rfl, ?_⟩
   replace hS74 := hS74.join rfl; dsimp only [List.dropLast, List.cons_append, List.nil_append] at hS74; clear hC74
   clear hS73
   refine wl_move rfl rfl ?_
   have hC75 := hS74.split [0] [true, false, false, false] rfl; dsimp only [selF, pickA, nthA, List.cons_append, List.nil_append] at hC75
   refine wl_call cal_24 rfl (qPut hC75 (by omega) (kE td to) (W.cells (kE dir name))) rfl ?_
   rintro e w75 ⟨_, rfl, rfl, hS75⟩; refine ⟨_, rfl, ?_⟩
   replace hS75 := hS75.join rfl; dsimp only [List.dropLast, List.cons_append, List.nil_append] at hS75; clear hC75
   clear hS74
   refine wl_nil (qs_seq ?_)
   refine wc_sub (L' := [(19, _), (11, _), (10, _)]) (.cons rfl (.cons rfl (.cons rfl .nil))) ?_
   refine wc_seq (wc_region (wl_move rfl rfl (wl_assign rfl rfl (wl_assign rfl rfl (wl_nil (qs_seq (wc_ret ?_)))))))
   refine fin2 (.inr rfl) rfl rfl rfl ?_
   have hL1 := look_y (W := W) hn1 hdd
   have hL2 := look_y (W := W) hn2 hdt
   have hE : renE W dir name td to = 0 := by unfold renE; rw [hL1, hL2]; rw [if_neg hc0, if_neg (fun q => q rfl), if_neg (fun q => q rfl), if_neg (fun q => by have q2 := hb3.symm.trans q; cases q2), if_neg hc4, if_neg hc5]; show repE W _ _ _ _ = _; unfold repE; rw [if_neg ht, if_neg hk, if_neg (by assumption)]
   have hrb : renE W dir name td to = 0 ∧ renB W dir name td to = true := ⟨hE, by unfold renB; rw [hL1, hL2]; simp only [Bool.and_eq_true, Bool.not_eq_true', Bool.and_eq_false_iff, decide_eq_false_iff_not]; exact ⟨by by_cases q : dir = td; exact .inr (fun q2 => hc4 (.inl ⟨q, q2⟩)); exact .inl q, fun q => hc4 (.inr q)⟩⟩
   have hSS : renS W dir name td to = (W.cells (kE td to)) := by unfold renS; rw [if_pos hrb, hL1, hL2]; show repS _ _ _ _ = _; unfold repS; rw [if_neg ht, if_neg hk, if_neg (by assumption)]
   have hRW : repW W (lookV W dir name).n (lookV W td to).id (lookV W td to).n (lookV W td to).ok = setI W (W.cells (kE td to)) (lnk (gI' W (W.cells (kE td to))) (-1)) := by rw [hL1, hL2]; show repW W _ _ _ _ = _; unfold repW; rw [if_neg ht, if_neg hk, if_neg (by assumption)]
   exact ⟨_, rfl, by rw [hSS, hE], by unfold renW; rw [if_pos hrb, hRW, hL1]; exact refP_up (by omega) (hS75.pick [0, 3] rfl)⟩
  have ht : (bI W (W.cells (kE td to)) && decide ((W.cells (kE td to)) ≠ [])) = false := by simpa only [Bool.not_eq_true] using h67
  refine wc_skip (qs_seq ?_)
  refine wc_sub (L' := [(19, _), (13, _), (11, _), (10, _), (0, _), (1, _), (2, _), (3, _), (4, _)]) (.cons rfl (.cons rfl (.cons rfl (.cons rfl (.cons rfl (.cons rfl (.cons rfl (.cons rfl (.cons rfl .nil))))))))) ?_
  refine wc_seq (wc_region (wl_move rfl rfl (wl_move rfl rfl (wl_move rfl rfl ?_))))
  have hC76 := hS51.split [] [false, false, false, false] rfl; dsimp only [selF, pickA, nthA, List.cons_append, List.nil_append] at hC76
  refine wl_call cal_73 rfl (rentry_sp hC76 dir name (by omega) (by omega)) rfl ?_
  rintro e w76 ⟨_, rfl, rfl, hS76⟩; refine ⟨_, rfl, ?_⟩
  replace hS76 := hS76.join rfl; dsimp only [List.dropLast, List.cons_append, List.nil_append] at hS76; clear hC76
  clear hS51
  have hC77 := hS76.split [0] [true, false, false, false] rfl; dsimp only [selF, pickA, nthA, List.cons_append, List.nil_append] at hC77
  refine wl_call cal_24 rfl (qPut hC77 (by omega) (kE dir name) []) rfl ?_
  rintro e w77 ⟨_, rfl, rfl, hS77⟩; refine ⟨_, rfl, ?_⟩
  replace hS77 := hS77.join rfl; dsimp only [List.dropLast, List.cons_append, List.nil_append] at hS77; clear hC77
  clear hS76
  refine wl_nil (qs_seq ?_)
  refine wc_sub (L' := [(19, _), (13, _), (11, _), (10, _), (0, _), (3, _), (4, _)]) (.cons rfl (.cons rfl (.cons rfl (.cons rfl (.cons rfl (.cons rfl (.cons rfl .nil))))))) ?_
  refine wc_seq (wc_region (wl_move rfl rfl (wl_move rfl rfl (wl_move rfl rfl ?_))))
  have hC78 := hS77.split [] [false, false, false, false] rfl; dsimp only [selF, pickA, nthA, List.cons_append, List.nil_append] at hC78
  refine wl_call cal_73 rfl (rentry_sp hC78 td to (by omega) (by omega)) rfl ?_
  rintro e w78 ⟨_, rfl, rfl, hS78⟩; refine ⟨_, rfl, ?_⟩
  replace hS78 := hS78.join rfl; dsimp only [List.dropLast, List.cons_append, List.nil_append] at hS78; clear hC78
  clear hS77
  refine wl_move rfl rfl ?_
  have hC79 := hS78.split [0] [true, false, false, false] rfl; dsimp only [selF, pickA, nthA, List.cons_append, List.nil_append] at hC79
  refine wl_call cal_24 rfl (qPut hC79 (by omega) (kE td to) (W.cells (kE dir name))) rfl ?_
  rintro e w79 ⟨_, rfl, rfl, hS79⟩; refine ⟨_, rfl, ?_⟩
  replace hS79 := hS79.join rfl; dsimp only [List.dropLast, List.cons_append, List.nil_append] at hS79; clear hC79
  clear hS78
  refine wl_nil (qs_seq ?_)
  refine wc_sub (L' := [(19, _), (11, _), (10, _)]) (.cons rfl (.cons rfl (.cons rfl .nil))) ?_
  refine wc_seq (wc_region (wl_move rfl rfl (wl_assign rfl rfl (wl_assign rfl rfl (wl_nil (qs_seq (wc_ret ?_)))))))
  refine fin2 (.inr rfl) rfl rfl rfl ?_
  have hL1 := look_y (W := W) hn1 hdd
  have hL2 := look_y (W := W) hn2 hdt
  have hE : renE W dir name td to = 0 := by unfold renE; rw [hL1, hL2]; rw [if_neg hc0, if_neg (fun q => q rfl), if_neg (fun q => q rfl), if_neg (fun q => by have q2 := hb3.symm.trans q; cases q2), if_neg hc4, if_neg hc5]; show repE W _ _ _ _ = _; unfold repE; rw [if_pos ht]
  have hrb : renE W dir name td to = 0 ∧ renB W dir name td to = true := ⟨hE, by unfold renB; rw [hL1, hL2]; simp only [Bool.and_eq_true, Bool.not_eq_true', Bool.and_eq_false_iff, decide_eq_false_iff_not]; exact ⟨by by_cases q : dir = td; exact .inr (fun q2 => hc4 (.inl ⟨q, q2⟩)); exact .inl q, fun q => hc4 (.inr q)⟩⟩
  have hSS : renS W dir name td to = [] := by unfold renS; rw [if_pos hrb, hL1, hL2]; show repS _ _ _ _ = _; unfold repS; rw [if_pos ht]
  have hRW : repW W (lookV W dir name).n (lookV W td to).id (lookV W td to).n (lookV W td to).ok = W := by rw [hL1, hL2]; show repW W _ _ _ _ = _; unfold repW; rw [if_pos ht]
  exact ⟨_, rfl, by rw [hSS, hE], by unfold renW; rw [if_pos hrb, hRW, hL1]; exact refP_up (by omega) (hS79.pick [0, 3] rfl)⟩
 have hdd : dirE W dir ≠ 0 := h6
 refine wc_skip (qs_seq (wc_seq (wc_seq (wc_region (wl_move rfl rfl ?_)))))
 refine wl_neq rfl rfl rfl ?_
 refine wl_nil (qs_seq ?_)
 refine wc_sub (L' := [(37, _), (12, _), (11, _), (10, _), (0, _), (1, _), (2, _), (3, _), (4, _)]) (.cons rfl (.cons rfl (.cons rfl (.cons rfl (.cons rfl (.cons rfl (.cons rfl (.cons rfl (.cons rfl .nil))))))))) ?_
 refine wc_condD rfl (fun h80 => ?_) (fun h80 => ?_)
 ·refine wc_seq (wc_region (wl_move rfl rfl (wl_assign rfl rfl (wl_assign rfl rfl (wl_nil (qs_seq (wc_ret (qs_then_ret ?_))))))))
  refine fin2 (.inr rfl) rfl rfl rfl ?_
  have hE : renE W dir name td to = dirE W dir := by unfold renE; rw [if_neg hc0, look_d hn1 hdd, if_pos hdd]
  have hrb : ¬ (renE W dir name td to = 0 ∧ renB W dir name td to = true) := by rintro ⟨q, _⟩; rw [hE] at q; first | exact absurd q (by decide) | exact absurd q (by assumption)
  exact ⟨_, rfl, by unfold renS; rw [if_neg hrb, hE], by unfold renW; rw [if_neg hrb]; exact refP_up (by omega) (hS5.pick [0, 1] rfl)⟩
 exact absurd (Decidable.not_not.1 h80) hdd
end Go.Proofs.YtkaikhcpcbjkcaaGreatDoor
