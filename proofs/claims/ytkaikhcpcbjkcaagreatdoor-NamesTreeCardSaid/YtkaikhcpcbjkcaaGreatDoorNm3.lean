/- names: Rename, Init -/
import Derived.Test.YtkaikhcpcbjkcaaGreatDoorNm2
namespace Go.Proofs.YtkaikhcpcbjkcaaGreatDoor
open Go.RowKit M
set_option linter.unusedVariables false
set_option maxRecDepth 100000 in
set_option maxHeartbeats 1600000 in
theorem rename_sp {w : World} {p : Nat} {W : WS} {m : Nat} {F : Th} (hS : Sat w [worldT p W, F]) (hG : Ent F WireG) (hP : PI W m) (hm : m ≤ 900) (dir name td to : Bs) (hd : dir.length ≤ 900) (hn : name.length ≤ 900) (htd : td.length ≤ 900) (hto : to.length ≤ 900) :
    Calls Tryz.prog 40 #[.iface 25 (ptrV p 0), strV dir, strV name, strV td, strV to] w (Ret fun v w' => v = .tuple #[strV (renS W dir name td to), intV (renE W dir name td to)] ∧ Sat w' [worldT p (renW W dir name td to), F]) := by
 have hid1 := lookV_len hP dir name
 have hid2 := lookV_len hP td to
 refine calls_enter Tryz.func40 rfl Tryz.ntmps40 rfl ?_
 refine wc_seq (wc_region (wl_assign rfl rfl (wl_assign rfl rfl (wl_nil (qs_seq (wc_seq (wc_seq (wc_region (wl_move rfl rfl ?_)))))))))
 have hC1 := hS.split [] [false, false] rfl; dsimp only [selF, pickA, nthA, List.cons_append, List.nil_append] at hC1
 refine wl_call cal_13 rfl (name_sp hC1 name (by omega)) rfl ?_
 rintro e w1 ⟨_, rfl, rfl, hS1⟩; refine ⟨_, rfl, ?_⟩
 replace hS1 := hS1.join rfl; dsimp only [List.dropLast, List.cons_append, List.nil_append] at hS1; clear hC1
 refine wl_not rfl rfl ?_
 refine wl_move rfl rfl ?_
 refine wl_split 23 rfl (fun h2 => ?_) (fun h2 => ?_)
 ·have hc0 : nameB name = false ∨ nameB to = false := .inl (by simpa using h2)
  refine wl_unwanted rfl rfl h2 rfl ?_
  refine wl_unwanted rfl rfl h2 rfl ?_
  refine wl_unwanted rfl rfl h2 rfl ?_
  refine wl_pickT rfl h2 rfl rfl ?_
  refine wl_nil (qs_seq ?_)
  refine wc_sub (L' := [(27, _), (11, _), (10, _), (0, _), (1, _), (2, _), (3, _), (4, _)]) (.cons rfl (.cons rfl (.cons rfl (.cons rfl (.cons rfl (.cons rfl (.cons rfl (.cons rfl .nil)))))))) ?_
  refine wc_condT rfl ?_
  refine wc_seq (wc_region (wl_assign rfl rfl (wl_assign rfl rfl (wl_nil (qs_seq (wc_ret (qs_then_ret ?_)))))))
  refine fin2 (.inr rfl) rfl rfl rfl ?_
  have hE : renE W dir name td to = 16 := by unfold renE; rw [if_pos hc0]
  have hrb : ¬ (renE W dir name td to = 0 ∧ renB W dir name td to = true) := by rintro ⟨q, _⟩; rw [hE] at q; first | exact absurd q (by decide) | exact absurd q (by assumption)
  exact ⟨_, rfl, by unfold renS; rw [if_neg hrb, hE], by unfold renW; rw [if_neg hrb]; exact hS1.pick [0, 1] rfl⟩
 have hnn : nameB name = true := by simpa using h2
 refine wl_guard rfl rfl h2 ?_
 refine wl_move rfl rfl ?_
 refine wl_guard rfl rfl h2 ?_
 have hC3 := hS1.split [] [false, false] rfl; dsimp only [selF, pickA, nthA, List.cons_append, List.nil_append] at hC3
 refine wl_call cal_13 rfl (name_sp hC3 to (by omega)) rfl ?_
 rintro e w3 ⟨_, rfl, rfl, hS3⟩; refine ⟨_, rfl, ?_⟩
 replace hS3 := hS3.join rfl; dsimp only [List.dropLast, List.cons_append, List.nil_append] at hS3; clear hC3
 clear hS1
 refine wl_guard rfl rfl h2 ?_
 refine wl_not rfl rfl ?_
 refine wl_pickF rfl h2 rfl rfl ?_
 refine wl_nil (qs_seq ?_)
 refine wc_sub (L' := [(27, _), (11, _), (10, _), (0, _), (1, _), (2, _), (3, _), (4, _)]) (.cons rfl (.cons rfl (.cons rfl (.cons rfl (.cons rfl (.cons rfl (.cons rfl (.cons rfl .nil)))))))) ?_
 refine wc_cond rfl (fun h4 => ?_) (fun h4 => ?_)
 ·have hc0 : nameB name = false ∨ nameB to = false := .inr (by simpa using h4)
  refine wc_seq (wc_region (wl_assign rfl rfl (wl_assign rfl rfl (wl_nil (qs_seq (wc_ret (qs_then_ret ?_)))))))
  refine fin2 (.inr rfl) rfl rfl rfl ?_
  have hE : renE W dir name td to = 16 := by unfold renE; rw [if_pos hc0]
  have hrb : ¬ (renE W dir name td to = 0 ∧ renB W dir name td to = true) := by rintro ⟨q, _⟩; rw [hE] at q; first | exact absurd q (by decide) | exact absurd q (by assumption)
  exact ⟨_, rfl, by unfold renS; rw [if_neg hrb, hE], by unfold renW; rw [if_neg hrb]; exact hS3.pick [0, 1] rfl⟩
 have hc0 : ¬ (nameB name = false ∨ nameB to = false) := by rintro (q | q); (rw [hnn] at q; cases q); (exact absurd q (by simpa using h4))
 refine wc_skip (qs_seq (wc_seq (wc_region (wl_move rfl rfl (wl_move rfl rfl (wl_move rfl rfl ?_))))))
 have hC5 := hS3.split [0] [true, false] rfl; dsimp only [selF, pickA, nthA, List.cons_append, List.nil_append] at hC5
 refine wl_call cal_82 rfl (look_sp hC5 (hG.starL 0 rfl) hP hm dir name (by omega) (by omega)) rfl ?_
 rintro e w5 ⟨_, rfl, rfl, hS5⟩; refine ⟨_, rfl, ?_⟩
 replace hS5 := hS5.join rfl; dsimp only [List.dropLast, List.cons_append, List.nil_append] at hS5; clear hC5
 clear hS3
 refine wl_move rfl rfl (wl_extract rfl rfl rfl (wl_extract rfl rfl rfl (wl_extract rfl rfl rfl (wl_extract rfl rfl rfl ?_))))
 refine wl_alloc hS5 zr_35 rfl rfl ?_
 intro b6 w6 hS6
 clear hS5
 refine wl_assign rfl rfl ?_
 first | (refine wl_storeA hS6 rfl rfl sz_35 rfl (by first | rfl | (simp [allOne, Value.oneCell']; done) | assumption | exact hone) (i := 0) rfl (by first | decide | exact Nat.le_of_ble_eq_true rfl | (simp; done) | omega) ?_)
 intro w7 hS8; dsimp only [List.set] at hS8
 clear hS6
 refine wl_assign rfl rfl (wl_assign rfl rfl (wl_nil (qs_seq ?_)))
 refine wc_sub (L' := [(15, _), (14, _), (12, _), (13, _), (11, _), (10, _), (0, _), (1, _), (2, _), (3, _), (4, _)]) (.cons rfl (.cons rfl (.cons rfl (.cons rfl (.cons rfl (.cons rfl (.cons rfl (.cons rfl (.cons rfl (.cons rfl (.cons rfl .nil))))))))))) ?_
 refine wc_seq (wc_seq (wc_region (wl_move rfl rfl ?_)))
 refine wl_neq rfl rfl rfl ?_
 refine wl_nil (qs_seq ?_)
 refine wc_condD rfl (fun h9 => ?_) (fun h9 => ?_)
 ·refine wc_seq (wc_region (wl_move rfl rfl (wl_assign rfl rfl (wl_assign rfl rfl (wl_nil (qs_seq ?_))))))
  refine wc_sub (L' := [(11, _), (10, _), (15, _), (14, _), (12, _), (13, _), (0, _), (1, _), (2, _), (3, _), (4, _)]) (.cons rfl (.cons rfl (.cons rfl (.cons rfl (.cons rfl (.cons rfl (.cons rfl (.cons rfl (.cons rfl (.cons rfl (.cons rfl .nil))))))))))) ?_
  refine wc_ret (qs_then_ret ?_)
  refine fin2 (.inr rfl) rfl rfl rfl ?_
  have hE : renE W dir name td to = (lookV W dir name).e := by unfold renE; rw [if_neg hc0, if_pos (by assumption)]
  have hrb : ¬ (renE W dir name td to = 0 ∧ renB W dir name td to = true) := by rintro ⟨q, _⟩; rw [hE] at q; first | exact absurd q (by decide) | exact absurd q (by assumption)
  exact ⟨_, rfl, by unfold renS; rw [if_neg hrb, hE], by unfold renW; rw [if_neg hrb]; exact hS8.pick [1, 2] rfl⟩
 refine wc_skip (qs_seq (wc_seq (wc_region (wl_move rfl rfl (wl_move rfl rfl (wl_move rfl rfl ?_))))))
 have hC10 := hS8.split [1] [false, true, false] rfl; dsimp only [selF, pickA, nthA, List.cons_append, List.nil_append] at hC10
 refine wl_call cal_82 rfl (look_sp hC10 (hG.starL 1 rfl) hP hm td to (by omega) (by omega)) rfl ?_
 rintro e w10 ⟨_, rfl, rfl, hS10⟩; refine ⟨_, rfl, ?_⟩
 replace hS10 := hS10.join rfl; dsimp only [List.dropLast, List.cons_append, List.nil_append] at hS10; clear hC10
 clear hS8
 refine wl_move rfl rfl (wl_extract rfl rfl rfl (wl_extract rfl rfl rfl (wl_extract rfl rfl rfl (wl_extract rfl rfl rfl ?_))))
 refine wl_alloc hS10 zr_35 rfl rfl ?_
 intro b11 w11 hS11
 clear hS10
 refine wl_assign rfl rfl ?_
 first | (refine wl_storeA hS11 rfl rfl sz_35 rfl (by first | rfl | (simp [allOne, Value.oneCell']; done) | assumption | exact hone) (i := 0) rfl (by first | decide | exact Nat.le_of_ble_eq_true rfl | (simp; done) | omega) ?_) | (refine wl_storeA hS11 rfl rfl sz_35 rfl (by first | rfl | (simp [allOne, Value.oneCell']; done) | assumption | exact hone) (i := 2) rfl (by first | decide | exact Nat.le_of_ble_eq_true rfl | (simp; done) | omega) ?_)
 intro w12 hS13; dsimp only [List.set] at hS13
 clear hS11
 refine wl_assign rfl rfl (wl_assign rfl rfl (wl_nil (qs_seq ?_)))
 refine wc_sub (L' := [(15, _), (18, _), (16, _), (17, _), (14, _), (12, _), (13, _), (11, _), (10, _), (0, _), (1, _), (2, _), (3, _), (4, _)]) (.cons rfl (.cons rfl (.cons rfl (.cons rfl (.cons rfl (.cons rfl (.cons rfl (.cons rfl (.cons rfl (.cons rfl (.cons rfl (.cons rfl (.cons rfl (.cons rfl .nil)))))))))))))) ?_
 refine wc_seq (wc_block (wc_seq (wc_region (wl_move rfl rfl ?_))))
 refine wl_neq rfl rfl rfl ?_
 refine wl_assign rfl rfl (wl_nil (qs_seq ?_))
 refine wc_condD rfl (fun h14 => ?_) (fun h14 => ?_)
 ·refine wc_seq (wc_region (wl_move rfl rfl (wl_assign rfl rfl (wl_assign rfl rfl (wl_nil (qs_seq ?_))))))
  refine wc_sub (L' := [(11, _), (10, _), (15, _), (18, _), (16, _), (17, _), (12, _), (13, _), (0, _), (1, _), (2, _), (3, _), (4, _)]) (.cons rfl (.cons rfl (.cons rfl (.cons rfl (.cons rfl (.cons rfl (.cons rfl (.cons rfl (.cons rfl (.cons rfl (.cons rfl (.cons rfl (.cons rfl .nil))))))))))))) ?_
  refine wc_ret (qs_block_ret (qs_then_ret ?_))
  refine fin2 (.inr rfl) rfl rfl rfl ?_
  have hE : renE W dir name td to = (lookV W td to).e := by unfold renE; rw [if_neg hc0, if_neg (by assumption), if_pos (by assumption)]
  have hrb : ¬ (renE W dir name td to = 0 ∧ renB W dir name td to = true) := by rintro ⟨q, _⟩; rw [hE] at q; first | exact absurd q (by decide) | exact absurd q (by assumption)
  exact ⟨_, rfl, by unfold renS; rw [if_neg hrb, hE], by unfold renW; rw [if_neg hrb]; exact hS13.pick [1, 3] rfl⟩
 refine wc_seq (wc_region (wl_move rfl rfl ?_))
 refine wl_not rfl rfl ?_
 refine wl_assign rfl rfl (wl_nil (qs_seq ?_))
 refine wc_sub (L' := [(53, _), (15, _), (18, _), (16, _), (17, _), (12, _), (13, _), (11, _), (10, _), (0, _), (1, _), (2, _), (3, _), (4, _)]) (.cons rfl (.cons rfl (.cons rfl (.cons rfl (.cons rfl (.cons rfl (.cons rfl (.cons rfl (.cons rfl (.cons rfl (.cons rfl (.cons rfl (.cons rfl (.cons rfl .nil)))))))))))))) ?_
 refine wc_cond rfl (fun h15 => ?_) (fun h15 => ?_)
 ·have hb3 : (lookV W dir name).ok = false := by simpa using h15
  refine wc_seq (wc_region (wl_assign rfl rfl (wl_assign rfl rfl (wl_nil (qs_seq (wc_ret (qs_block_ret (qs_then_ret ?_))))))))
  refine fin2 (.inr rfl) rfl rfl rfl ?_
  have hE : renE W dir name td to = 4 := by unfold renE; rw [if_neg hc0, if_neg (by assumption), if_neg (by assumption), if_pos hb3]
  have hrb : ¬ (renE W dir name td to = 0 ∧ renB W dir name td to = true) := by rintro ⟨q, _⟩; rw [hE] at q; first | exact absurd q (by decide) | exact absurd q (by assumption)
  exact ⟨_, rfl, by unfold renS; rw [if_neg hrb, hE], by unfold renW; rw [if_neg hrb]; exact hS13.pick [1, 3] rfl⟩
 have hb3 : (lookV W dir name).ok = true := by simpa using h15
 refine wc_seq (wc_region (wl_move rfl rfl (wl_move rfl rfl ?_)))
 refine wl_eqlS rfl rfl rfl ?_
 refine wl_move rfl rfl ?_
 refine wl_splitD 60 rfl (fun h16 => ?_) (fun h16 => ?_)
 ·have hdt : dir = td := h16
  refine wl_guard rfl rfl (decide_eq_true h16) ?_
  refine wl_move rfl rfl ?_
  refine wl_guard rfl rfl (decide_eq_true h16) ?_
  refine wl_move rfl rfl ?_
  refine wl_guard rfl rfl (decide_eq_true h16) ?_
  refine wl_eqlS rfl rfl rfl ?_
  refine wl_pickT rfl (decide_eq_true h16) rfl rfl ?_
  refine wl_move rfl rfl ?_
  refine wl_splitD 65 rfl (fun h17 => ?_) (fun h17 => ?_)
  ·have hc4 : (dir = td ∧ name = to) ∨ (lookV W dir name).id = (lookV W td to).id := .inl ⟨hdt, h17⟩
   refine wl_unwanted rfl rfl (decide_eq_true h17) rfl ?_
   refine wl_unwanted rfl rfl (decide_eq_true h17) rfl ?_
   refine wl_unwanted rfl rfl (decide_eq_true h17) rfl ?_
   refine wl_pickT rfl (decide_eq_true h17) rfl rfl ?_
   refine wl_assign rfl rfl (wl_nil (qs_seq ?_))
   refine wc_sub (L' := [(56, _), (15, _), (18, _), (16, _), (17, _), (12, _), (13, _), (11, _), (10, _), (0, _), (1, _), (2, _), (3, _), (4, _)]) (.cons rfl (.cons rfl (.cons rfl (.cons rfl (.cons rfl (.cons rfl (.cons rfl (.cons rfl (.cons rfl (.cons rfl (.cons rfl (.cons rfl (.cons rfl (.cons rfl .nil)))))))))))))) ?_
   refine wc_condT rfl ?_
   refine wc_seq (wc_region (wl_assign rfl rfl (wl_assign rfl rfl (wl_nil (qs_seq (wc_ret (qs_block_ret (qs_then_ret ?_))))))))
   refine fin2 (.inr rfl) rfl rfl rfl ?_
   have hE : renE W dir name td to = 0 := by unfold renE; rw [if_neg hc0, if_neg (by assumption), if_neg (by assumption), if_neg (by simp [hb3]), if_pos hc4]
   have hrb : ¬ (renE W dir name td to = 0 ∧ renB W dir name td to = true) := by rintro ⟨_, q⟩; unfold renB at q; rcases hc4 with ⟨q1, q2⟩ | q1; (subst q1; subst q2; simp at q); (rw [q1] at q; simp at q)
   exact ⟨_, rfl, by unfold renS; rw [if_neg hrb, hE], by unfold renW; rw [if_neg hrb]; exact hS13.pick [1, 3] rfl⟩
  have hnt : ¬ name = to := h17
  refine wl_guard rfl rfl (decide_eq_false h17) ?_
  refine wl_move rfl rfl ?_
  refine wl_guard rfl rfl (decide_eq_false h17) ?_
  refine wl_move rfl rfl ?_
  refine wl_guard rfl rfl (decide_eq_false h17) ?_
  refine wl_eqlS rfl rfl rfl ?_
  refine wl_pickF rfl (decide_eq_false h17) rfl rfl ?_
  refine wl_assign rfl rfl (wl_nil (qs_seq ?_))
  refine wc_sub (L' := [(56, _), (15, _), (18, _), (16, _), (17, _), (12, _), (13, _), (11, _), (10, _), (0, _), (1, _), (2, _), (3, _), (4, _)]) (.cons rfl (.cons rfl (.cons rfl (.cons rfl (.cons rfl (.cons rfl (.cons rfl (.cons rfl (.cons rfl (.cons rfl (.cons rfl (.cons rfl (.cons rfl (.cons rfl .nil)))))))))))))) ?_
  refine wc_condD rfl (fun h18 => ?_) (fun h18 => ?_)
  ·have hc4 : (dir = td ∧ name = to) ∨ (lookV W dir name).id = (lookV W td to).id := .inr h18
   refine wc_seq (wc_region (wl_assign rfl rfl (wl_assign rfl rfl (wl_nil (qs_seq (wc_ret (qs_block_ret (qs_then_ret ?_))))))))
   refine fin2 (.inr rfl) rfl rfl rfl ?_
   have hE : renE W dir name td to = 0 := by unfold renE; rw [if_neg hc0, if_neg (by assumption), if_neg (by assumption), if_neg (by simp [hb3]), if_pos hc4]
   have hrb : ¬ (renE W dir name td to = 0 ∧ renB W dir name td to = true) := by rintro ⟨_, q⟩; unfold renB at q; rcases hc4 with ⟨q1, q2⟩ | q1; (subst q1; subst q2; simp at q); (rw [q1] at q; simp at q)
   exact ⟨_, rfl, by unfold renS; rw [if_neg hrb, hE], by unfold renW; rw [if_neg hrb]; exact hS13.pick [1, 3] rfl⟩
  have hc4 : ¬ ((dir = td ∧ name = to) ∨ (lookV W dir name).id = (lookV W td to).id) := by rintro (⟨q1, q2⟩ | q); (first | exact absurd q1 (by assumption) | exact absurd q2 (by assumption)); exact absurd q h18
  refine wc_seq (wc_region ?_)
  refine wl_fieldAddr rfl fo_35_0 rfl ?_
  refine wl_load rfl ag_3 (by first | assumption | exact hS13.cell 0 rfl rfl | exact hS13.cell 2 rfl rfl) rfl ?_
  refine wl_eql rfl rfl rfl ?_
  refine wl_move rfl rfl ?_
  refine wl_splitD 74 rfl (fun h19 => ?_) (fun h19 => ?_)
  ·have hk13 : (lookV W dir name).n.k = 2 := h19
   refine wl_guard rfl rfl (decide_eq_true h19) ?_
   refine wl_move rfl rfl ?_
   refine wl_guard rfl rfl (decide_eq_true h19) ?_
   refine wl_move rfl rfl ?_
   refine wl_guard rfl rfl (decide_eq_true h19) ?_
   refine wl_neqS rfl rfl rfl ?_
   refine wl_pickT rfl (decide_eq_true h19) rfl rfl ?_
   refine wl_assign rfl rfl (wl_nil (qs_seq ?_))
   refine wc_sub (L' := [(70, _), (15, _), (18, _), (16, _), (17, _), (12, _), (13, _), (11, _), (10, _), (0, _), (1, _), (2, _), (3, _), (4, _)]) (.cons rfl (.cons rfl (.cons rfl (.cons rfl (.cons rfl (.cons rfl (.cons rfl (.cons rfl (.cons rfl (.cons rfl (.cons rfl (.cons rfl (.cons rfl (.cons rfl .nil)))))))))))))) ?_
   refine wc_condD rfl (fun h20 => ?_) (fun h20 => ?_)
   ·have hc5 : (lookV W dir name).n.k = 2 ∧ td ≠ dir := ⟨hk13, h20⟩
    refine wc_seq (wc_region (wl_assign rfl rfl (wl_assign rfl rfl (wl_nil (qs_seq (wc_ret (qs_block_ret (qs_then_ret ?_))))))))
    refine fin2 (.inr rfl) rfl rfl rfl ?_
    have hE : renE W dir name td to = 1 := by unfold renE; rw [if_neg hc0, if_neg (by assumption), if_neg (by assumption), if_neg (by simp [hb3]), if_neg hc4, if_pos hc5]
    have hrb : ¬ (renE W dir name td to = 0 ∧ renB W dir name td to = true) := by rintro ⟨q, _⟩; rw [hE] at q; first | exact absurd q (by decide) | exact absurd q (by assumption)
    exact ⟨_, rfl, by unfold renS; rw [if_neg hrb, hE], by unfold renW; rw [if_neg hrb]; exact hS13.pick [1, 3] rfl⟩
   have hc5 : ¬ ((lookV W dir name).n.k = 2 ∧ td ≠ dir) := fun q => h20 q.2
   refine wc_skip (qs_block_normal (qs_seq (wc_seq (wc_region (wl_move rfl rfl ?_)))))
   refine wl_loadA rfl ag_35 sz_35 (by first | exact hS13.blk 0 rfl | exact hS13.blk 2 rfl) (by first | decide | exact Nat.le_of_ble_eq_true rfl | (simp; done) | omega) rfl rfl ?_
   refine wl_move rfl rfl ?_
   refine wl_loadA rfl ag_35 sz_35 (by first | exact hS13.blk 0 rfl | exact hS13.blk 2 rfl) (by first | decide | exact Nat.le_of_ble_eq_true rfl | (simp; done) | omega) rfl rfl ?_
   refine wl_move rfl rfl ?_
   have hC21 := hS13.split [1] [false, true, false, false] rfl; dsimp only [selF, pickA, nthA, List.cons_append, List.nil_append] at hC21
   refine wl_call cal_83 rfl (replace_sp hC21 (hG.starL 2 rfl) hP hm (lookV W dir name).n (lookV W td to).id (by omega) (lookV W td to).n (lookV_in W td to) (lookV W td to).ok) rfl ?_
   rintro e w21 ⟨_, rfl, rfl, hS21⟩; refine ⟨_, rfl, ?_⟩
   replace hS21 := hS21.join rfl; dsimp only [List.dropLast, List.cons_append, List.nil_append] at hS21; clear hC21
   clear hS13
   refine wl_move rfl rfl (wl_extract rfl rfl rfl (wl_extract rfl rfl rfl (wl_assign rfl rfl (wl_assign rfl rfl (wl_nil (qs_seq ?_))))))
   refine wc_sub (L' := [(15, _), (19, _), (12, _), (11, _), (10, _), (0, _), (1, _), (2, _), (3, _), (4, _)]) (.cons rfl (.cons rfl (.cons rfl (.cons rfl (.cons rfl (.cons rfl (.cons rfl (.cons rfl (.cons rfl (.cons rfl .nil)))))))))) ?_
   refine wc_seq (wc_seq (wc_region (wl_move rfl rfl ?_)))
   refine wl_neq rfl rfl rfl ?_
   refine wl_nil (qs_seq ?_)
   refine wc_condD rfl (fun h22 => ?_) (fun h22 => ?_)
   ·refine wc_seq (wc_region (wl_move rfl rfl (wl_assign rfl rfl (wl_assign rfl rfl (wl_nil (qs_seq ?_))))))
    refine wc_sub (L' := [(11, _), (10, _), (19, _), (12, _), (0, _), (1, _), (2, _), (3, _), (4, _)]) (.cons rfl (.cons rfl (.cons rfl (.cons rfl (.cons rfl (.cons rfl (.cons rfl (.cons rfl (.cons rfl .nil))))))))) ?_
    refine wc_ret (qs_then_ret ?_)
    refine fin2 (.inr rfl) rfl rfl rfl ?_
    have hE : renE W dir name td to = repE W (lookV W dir name).n (lookV W td to).id (lookV W td to).n (lookV W td to).ok := by unfold renE; rw [if_neg hc0, if_neg (by assumption), if_neg (by assumption), if_neg (by simp [hb3]), if_neg hc4, if_neg hc5]
    have hrb : ¬ (renE W dir name td to = 0 ∧ renB W dir name td to = true) := by rintro ⟨q, _⟩; rw [hE] at q; first | exact absurd q (by decide) | exact absurd q (by assumption)
    have hSr := hS21.pick [0, 3] rfl; rw [repW_id (by assumption)] at hSr
    exact ⟨_, rfl, by unfold renS; rw [if_neg hrb, hE], by unfold renW; rw [if_neg hrb]; exact hSr⟩
   have hz6 : repE W (lookV W dir name).n (lookV W td to).id (lookV W td to).n (lookV W td to).ok = 0 := Decidable.not_not.1 h22
   refine wc_skip (qs_seq ?_)
   refine wc_sub (L' := [(19, _), (12, _), (11, _), (10, _), (0, _), (1, _), (2, _), (3, _), (4, _)]) (.cons rfl (.cons rfl (.cons rfl (.cons rfl (.cons rfl (.cons rfl (.cons rfl (.cons rfl (.cons rfl .nil))))))))) ?_
   refine wc_seq ?_
   have hS23 := hS21.drew
   refine wc_draw [0, 1, 2, 4, 5, 6, 3, 7] [3, 7] mix (by kernel_rfl) ?_
   refine vc_p rfl rfl rfl (fun _ => (ev_move rfl)) ?_
   refine vc_p rfl rfl rfl (fun _ => (ev_move rfl)) ?_
   refine vc_p rfl rfl rfl (fun _ => (ev_move rfl)) ?_
   refine vc_p rfl rfl rfl (fun _ => (ev_makeMeth rfl)) ?_
   refine vc_p rfl rfl rfl (fun _ => (ev_nilCheckMeth rfl (mnil_Put p))) ?_
   refine vc_p rfl rfl rfl (fun _ => (ev_move rfl)) ?_
   refine vc_s rfl rfl rfl rfl rfl rfl ?_
   have hC24 := hS23.split [] [false, false, false, false] rfl; dsimp only [selF, pickA, nthA, List.cons_append, List.nil_append] at hC24
   refine wl_call cal_70 rfl (entry_sp hC24 dir name (by omega) (by omega)) rfl ?_
   rintro e w24 ⟨_, rfl, rfl, hS24⟩; refine ⟨_, rfl, ?_⟩
   replace hS24 := hS24.join rfl; dsimp only [List.dropLast, List.cons_append, List.nil_append] at hS24; clear hC24
   clear hS23
   refine vc_e .nil ?_
   refine vc_s rfl rfl rfl rfl rfl rfl ?_
   have hC25 := hS24.split [0] [true, false, false, false] rfl; dsimp only [selF, pickA, nthA, List.cons_append, List.nil_append] at hC25
   refine wl_invoke (vs := [strV (kE dir name), strV []]) rfl (imeth_Put p) cal_23 rfl (put_sp hC25 (kE dir name) [] (by simp only [kI, kU, kE, List.length_append, List.length_cons, List.length_nil]; omega) (by simp)) rfl ?_
   rintro e w25 ⟨_, rfl, rfl, hS25⟩; refine ⟨_, rfl, ?_⟩
   replace hS25 := hS25.join rfl; dsimp only [List.dropLast, List.cons_append, List.nil_append] at hS25; clear hC25
   clear hS24
   refine vc_e .nil ?_
   refine VC.nil (qs_seq ?_)
   refine wc_sub (L' := [(19, _), (12, _), (11, _), (10, _), (0, _), (3, _), (4, _)]) (.cons rfl (.cons rfl (.cons rfl (.cons rfl (.cons rfl (.cons rfl (.cons rfl .nil))))))) ?_
   refine wc_seq ?_
   have hS26 := hS25.drew
   refine wc_draw [0, 1, 2, 4, 5, 6, 7, 3, 8] [3, 8] mix (by kernel_rfl) ?_
   refine vc_p rfl rfl rfl (fun _ => (ev_move rfl)) ?_
   refine vc_p rfl rfl rfl (fun _ => (ev_move rfl)) ?_
   refine vc_p rfl rfl rfl (fun _ => (ev_move rfl)) ?_
   refine vc_p rfl rfl rfl (fun _ => (ev_move rfl)) ?_
   refine vc_p rfl rfl rfl (fun _ => (ev_makeMeth rfl)) ?_
   refine vc_p rfl rfl rfl (fun _ => (ev_nilCheckMeth rfl (mnil_Put p))) ?_
   refine vc_p rfl rfl rfl (fun _ => (ev_move rfl)) ?_
   refine vc_s rfl rfl rfl rfl rfl rfl ?_
   have hC27 := hS26.split [] [false, false, false, false] rfl; dsimp only [selF, pickA, nthA, List.cons_append, List.nil_append] at hC27
   refine wl_call cal_70 rfl (entry_sp hC27 td to (by omega) (by omega)) rfl ?_
   rintro e w27 ⟨_, rfl, rfl, hS27⟩; refine ⟨_, rfl, ?_⟩
   replace hS27 := hS27.join rfl; dsimp only [List.dropLast, List.cons_append, List.nil_append] at hS27; clear hC27
   clear hS26
   refine vc_e .nil ?_
   refine vc_s rfl rfl rfl rfl rfl rfl ?_
   have hC28 := hS27.split [0] [true, false, false, false] rfl; dsimp only [selF, pickA, nthA, List.cons_append, List.nil_append] at hC28
   refine wl_invoke (vs := [strV (kE td to), strV (lookV W dir name).id]) rfl (imeth_Put p) cal_23 rfl (put_sp hC28 (kE td to) (lookV W dir name).id (by simp only [kI, kU, kE, List.length_append, List.length_cons, List.length_nil]; omega) (by omega)) rfl ?_
   rintro e w28 ⟨_, rfl, rfl, hS28⟩; refine ⟨_, rfl, ?_⟩
   replace hS28 := hS28.join rfl; dsimp only [List.dropLast, List.cons_append, List.nil_append] at hS28; clear hC28
   clear hS27
   refine vc_e .nil ?_
   refine VC.nil (qs_seq ?_)
   refine wc_sub (L' := [(19, _), (11, _), (10, _)]) (.cons rfl (.cons rfl (.cons rfl .nil))) ?_
   refine wc_seq (wc_region (wl_move rfl rfl (wl_assign rfl rfl (wl_assign rfl rfl (wl_nil (qs_seq (wc_ret ?_)))))))
   refine fin2 (.inr rfl) rfl rfl rfl ?_
   have hE : renE W dir name td to = 0 := by unfold renE; rw [if_neg hc0, if_neg (by assumption), if_neg (by assumption), if_neg (by simp [hb3]), if_neg hc4, if_neg hc5]; exact hz6
   have hrb : renE W dir name td to = 0 ∧ renB W dir name td to = true := ⟨hE, by unfold renB; simp only [Bool.and_eq_true, Bool.not_eq_true', Bool.and_eq_false_iff, decide_eq_false_iff_not]; exact ⟨by by_cases q : dir = td; exact .inr (fun q2 => hc4 (.inl ⟨q, q2⟩)); exact .inl q, fun q => hc4 (.inr q)⟩⟩
   exact ⟨_, rfl, by unfold renS; rw [if_pos hrb, hE], by unfold renW; rw [if_pos hrb]; exact hS28.pick [0, 3] rfl⟩
  have hc5 : ¬ ((lookV W dir name).n.k = 2 ∧ td ≠ dir) := fun q => absurd q.1 h19
  refine wl_unwanted rfl rfl (decide_eq_false h19) rfl ?_
  refine wl_unwanted rfl rfl (decide_eq_false h19) rfl ?_
  refine wl_unwanted rfl rfl (decide_eq_false h19) rfl ?_
  refine wl_pickF rfl (decide_eq_false h19) rfl rfl ?_
  refine wl_assign rfl rfl (wl_nil (qs_seq ?_))
  refine wc_sub (L' := [(70, _), (15, _), (18, _), (16, _), (17, _), (12, _), (13, _), (11, _), (10, _), (0, _), (1, _), (2, _), (3, _), (4, _)]) (.cons rfl (.cons rfl (.cons rfl (.cons rfl (.cons rfl (.cons rfl (.cons rfl (.cons rfl (.cons rfl (.cons rfl (.cons rfl (.cons rfl (.cons rfl (.cons rfl .nil)))))))))))))) ?_
  refine wc_condF rfl ?_
  refine wc_skip (qs_block_normal (qs_seq (wc_seq (wc_region (wl_move rfl rfl ?_)))))
  refine wl_loadA rfl ag_35 sz_35 (by first | exact hS13.blk 0 rfl | exact hS13.blk 2 rfl) (by first | decide | exact Nat.le_of_ble_eq_true rfl | (simp; done) | omega) rfl rfl ?_
  refine wl_move rfl rfl ?_
  refine wl_loadA rfl ag_35 sz_35 (by first | exact hS13.blk 0 rfl | exact hS13.blk 2 rfl) (by first | decide | exact Nat.le_of_ble_eq_true rfl | (simp; done) | omega) rfl rfl ?_
  refine wl_move rfl rfl ?_
  have hC29 := hS13.split [1] [false, true, false, false] rfl; dsimp only [selF, pickA, nthA, List.cons_append, List.nil_append] at hC29
  refine wl_call cal_83 rfl (replace_sp hC29 (hG.starL 2 rfl) hP hm (lookV W dir name).n (lookV W td to).id (by omega) (lookV W td to).n (lookV_in W td to) (lookV W td to).ok) rfl ?_
  rintro e w29 ⟨_, rfl, rfl, hS29⟩; refine ⟨_, rfl, ?_⟩
  replace hS29 := hS29.join rfl; dsimp only [List.dropLast, List.cons_append, List.nil_append] at hS29; clear hC29
  clear hS13
  refine wl_move rfl rfl (wl_extract rfl rfl rfl (wl_extract rfl rfl rfl (wl_assign rfl rfl (wl_assign rfl rfl (wl_nil (qs_seq ?_))))))
  refine wc_sub (L' := [(15, _), (19, _), (12, _), (11, _), (10, _), (0, _), (1, _), (2, _), (3, _), (4, _)]) (.cons rfl (.cons rfl (.cons rfl (.cons rfl (.cons rfl (.cons rfl (.cons rfl (.cons rfl (.cons rfl (.cons rfl .nil)))))))))) ?_
  refine wc_seq (wc_seq (wc_region (wl_move rfl rfl ?_)))
  refine wl_neq rfl rfl rfl ?_
  refine wl_nil (qs_seq ?_)
  refine wc_condD rfl (fun h30 => ?_) (fun h30 => ?_)
  ·refine wc_seq (wc_region (wl_move rfl rfl (wl_assign rfl rfl (wl_assign rfl rfl (wl_nil (qs_seq ?_))))))
   refine wc_sub (L' := [(11, _), (10, _), (19, _), (12, _), (0, _), (1, _), (2, _), (3, _), (4, _)]) (.cons rfl (.cons rfl (.cons rfl (.cons rfl (.cons rfl (.cons rfl (.cons rfl (.cons rfl (.cons rfl .nil))))))))) ?_
   refine wc_ret (qs_then_ret ?_)
   refine fin2 (.inr rfl) rfl rfl rfl ?_
   have hE : renE W dir name td to = repE W (lookV W dir name).n (lookV W td to).id (lookV W td to).n (lookV W td to).ok := by unfold renE; rw [if_neg hc0, if_neg (by assumption), if_neg (by assumption), if_neg (by simp [hb3]), if_neg hc4, if_neg hc5]
   have hrb : ¬ (renE W dir name td to = 0 ∧ renB W dir name td to = true) := by rintro ⟨q, _⟩; rw [hE] at q; first | exact absurd q (by decide) | exact absurd q (by assumption)
   have hSr := hS29.pick [0, 3] rfl; rw [repW_id (by assumption)] at hSr
   exact ⟨_, rfl, by unfold renS; rw [if_neg hrb, hE], by unfold renW; rw [if_neg hrb]; exact hSr⟩
  have hz6 : repE W (lookV W dir name).n (lookV W td to).id (lookV W td to).n (lookV W td to).ok = 0 := Decidable.not_not.1 h30
  refine wc_skip (qs_seq ?_)
  refine wc_sub (L' := [(19, _), (12, _), (11, _), (10, _), (0, _), (1, _), (2, _), (3, _), (4, _)]) (.cons rfl (.cons rfl (.cons rfl (.cons rfl (.cons rfl (.cons rfl (.cons rfl (.cons rfl (.cons rfl .nil))))))))) ?_
  refine wc_seq ?_
  have hS31 := hS29.drew
  refine wc_draw [0, 1, 2, 4, 5, 6, 3, 7] [3, 7] mix (by kernel_rfl) ?_
  refine vc_p rfl rfl rfl (fun _ => (ev_move rfl)) ?_
  refine vc_p rfl rfl rfl (fun _ => (ev_move rfl)) ?_
  refine vc_p rfl rfl rfl (fun _ => (ev_move rfl)) ?_
  refine vc_p rfl rfl rfl (fun _ => (ev_makeMeth rfl)) ?_
  refine vc_p rfl rfl rfl (fun _ => (ev_nilCheckMeth rfl (mnil_Put p))) ?_
  refine vc_p rfl rfl rfl (fun _ => (ev_move rfl)) ?_
  refine vc_s rfl rfl rfl rfl rfl rfl ?_
  have hC32 := hS31.split [] [false, false, false, false] rfl; dsimp only [selF, pickA, nthA, List.cons_append, List.nil_append] at hC32
  refine wl_call cal_70 rfl (entry_sp hC32 dir name (by omega) (by omega)) rfl ?_
  rintro e w32 ⟨_, rfl, rfl, hS32⟩; refine ⟨_, rfl, ?_⟩
  replace hS32 := hS32.join rfl; dsimp only [List.dropLast, List.cons_append, List.nil_append] at hS32; clear hC32
  clear hS31
  refine vc_e .nil ?_
  refine vc_s rfl rfl rfl rfl rfl rfl ?_
  have hC33 := hS32.split [0] [true, false, false, false] rfl; dsimp only [selF, pickA, nthA, List.cons_append, List.nil_append] at hC33
  refine wl_invoke (vs := [strV (kE dir name), strV []]) rfl (imeth_Put p) cal_23 rfl (put_sp hC33 (kE dir name) [] (by simp only [kI, kU, kE, List.length_append, List.length_cons, List.length_nil]; omega) (by simp)) rfl ?_
  rintro e w33 ⟨_, rfl, rfl, hS33⟩; refine ⟨_, rfl, ?_⟩
  replace hS33 := hS33.join rfl; dsimp only [List.dropLast, List.cons_append, List.nil_append] at hS33; clear hC33
  clear hS32
  refine vc_e .nil ?_
  refine VC.nil (qs_seq ?_)
  refine wc_sub (L' := [(19, _), (12, _), (11, _), (10, _), (0, _), (3, _), (4, _)]) (.cons rfl (.cons rfl (.cons rfl (.cons rfl (.cons rfl (.cons rfl (.cons rfl .nil))))))) ?_
  refine wc_seq ?_
  have hS34 := hS33.drew
  refine wc_draw [0, 1, 2, 4, 5, 6, 7, 3, 8] [3, 8] mix (by kernel_rfl) ?_
  refine vc_p rfl rfl rfl (fun _ => (ev_move rfl)) ?_
  refine vc_p rfl rfl rfl (fun _ => (ev_move rfl)) ?_
  refine vc_p rfl rfl rfl (fun _ => (ev_move rfl)) ?_
  refine vc_p rfl rfl rfl (fun _ => (ev_move rfl)) ?_
  refine vc_p rfl rfl rfl (fun _ => (ev_makeMeth rfl)) ?_
  refine vc_p rfl rfl rfl (fun _ => (ev_nilCheckMeth rfl (mnil_Put p))) ?_
  refine vc_p rfl rfl rfl (fun _ => (ev_move rfl)) ?_
  refine vc_s rfl rfl rfl rfl rfl rfl ?_
  have hC35 := hS34.split [] [false, false, false, false] rfl; dsimp only [selF, pickA, nthA, List.cons_append, List.nil_append] at hC35
  refine wl_call cal_70 rfl (entry_sp hC35 td to (by omega) (by omega)) rfl ?_
  rintro e w35 ⟨_, rfl, rfl, hS35⟩; refine ⟨_, rfl, ?_⟩
  replace hS35 := hS35.join rfl; dsimp only [List.dropLast, List.cons_append, List.nil_append] at hS35; clear hC35
  clear hS34
  refine vc_e .nil ?_
  refine vc_s rfl rfl rfl rfl rfl rfl ?_
  have hC36 := hS35.split [0] [true, false, false, false] rfl; dsimp only [selF, pickA, nthA, List.cons_append, List.nil_append] at hC36
  refine wl_invoke (vs := [strV (kE td to), strV (lookV W dir name).id]) rfl (imeth_Put p) cal_23 rfl (put_sp hC36 (kE td to) (lookV W dir name).id (by simp only [kI, kU, kE, List.length_append, List.length_cons, List.length_nil]; omega) (by omega)) rfl ?_
  rintro e w36 ⟨_, rfl, rfl, hS36⟩; refine ⟨_, rfl, ?_⟩
  replace hS36 := hS36.join rfl; dsimp only [List.dropLast, List.cons_append, List.nil_append] at hS36; clear hC36
  clear hS35
  refine vc_e .nil ?_
  refine VC.nil (qs_seq ?_)
  refine wc_sub (L' := [(19, _), (11, _), (10, _)]) (.cons rfl (.cons rfl (.cons rfl .nil))) ?_
  refine wc_seq (wc_region (wl_move rfl rfl (wl_assign rfl rfl (wl_assign rfl rfl (wl_nil (qs_seq (wc_ret ?_)))))))
  refine fin2 (.inr rfl) rfl rfl rfl ?_
  have hE : renE W dir name td to = 0 := by unfold renE; rw [if_neg hc0, if_neg (by assumption), if_neg (by assumption), if_neg (by simp [hb3]), if_neg hc4, if_neg hc5]; exact hz6
  have hrb : renE W dir name td to = 0 ∧ renB W dir name td to = true := ⟨hE, by unfold renB; simp only [Bool.and_eq_true, Bool.not_eq_true', Bool.and_eq_false_iff, decide_eq_false_iff_not]; exact ⟨by by_cases q : dir = td; exact .inr (fun q2 => hc4 (.inl ⟨q, q2⟩)); exact .inl q, fun q => hc4 (.inr q)⟩⟩
  exact ⟨_, rfl, by unfold renS; rw [if_pos hrb, hE], by unfold renW; rw [if_pos hrb]; exact hS36.pick [0, 3] rfl⟩
 have hdt : ¬ dir = td := h16
 refine wl_unwanted rfl rfl (decide_eq_false h16) rfl ?_
 refine wl_unwanted rfl rfl (decide_eq_false h16) rfl ?_
 refine wl_unwanted rfl rfl (decide_eq_false h16) rfl ?_
 refine wl_pickF rfl (decide_eq_false h16) rfl rfl ?_
 refine wl_move rfl rfl ?_
 refine wl_guard rfl rfl rfl ?_
 refine wl_move rfl rfl ?_
 refine wl_guard rfl rfl rfl ?_
 refine wl_move rfl rfl ?_
 refine wl_guard rfl rfl rfl ?_
 refine wl_eqlS rfl rfl rfl ?_
 refine wl_pickF rfl rfl rfl rfl ?_
 refine wl_assign rfl rfl (wl_nil (qs_seq ?_))
 refine wc_sub (L' := [(56, _), (15, _), (18, _), (16, _), (17, _), (12, _), (13, _), (11, _), (10, _), (0, _), (1, _), (2, _), (3, _), (4, _)]) (.cons rfl (.cons rfl (.cons rfl (.cons rfl (.cons rfl (.cons rfl (.cons rfl (.cons rfl (.cons rfl (.cons rfl (.cons rfl (.cons rfl (.cons rfl (.cons rfl .nil)))))))))))))) ?_
 refine wc_condD rfl (fun h37 => ?_) (fun h37 => ?_)
 ·have hc4 : (dir = td ∧ name = to) ∨ (lookV W dir name).id = (lookV W td to).id := .inr h37
  refine wc_seq (wc_region (wl_assign rfl rfl (wl_assign rfl rfl (wl_nil (qs_seq (wc_ret (qs_block_ret (qs_then_ret ?_))))))))
  refine fin2 (.inr rfl) rfl rfl rfl ?_
  have hE : renE W dir name td to = 0 := by unfold renE; rw [if_neg hc0, if_neg (by assumption), if_neg (by assumption), if_neg (by simp [hb3]), if_pos hc4]
  have hrb : ¬ (renE W dir name td to = 0 ∧ renB W dir name td to = true) := by rintro ⟨_, q⟩; unfold renB at q; rcases hc4 with ⟨q1, q2⟩ | q1; (subst q1; subst q2; simp at q); (rw [q1] at q; simp at q)
  exact ⟨_, rfl, by unfold renS; rw [if_neg hrb, hE], by unfold renW; rw [if_neg hrb]; exact hS13.pick [1, 3] rfl⟩
 have hc4 : ¬ ((dir = td ∧ name = to) ∨ (lookV W dir name).id = (lookV W td to).id) := by rintro (⟨q1, q2⟩ | q); (first | exact absurd q1 (by assumption) | exact absurd q2 (by assumption)); exact absurd q h37
 refine wc_seq (wc_region ?_)
 refine wl_fieldAddr rfl fo_35_0 rfl ?_
 refine wl_load rfl ag_3 (by first | assumption | exact hS13.cell 0 rfl rfl | exact hS13.cell 2 rfl rfl) rfl ?_
 refine wl_eql rfl rfl rfl ?_
 refine wl_move rfl rfl ?_
 refine wl_splitD 74 rfl (fun h38 => ?_) (fun h38 => ?_)
 ·have hk13 : (lookV W dir name).n.k = 2 := h38
  refine wl_guard rfl rfl (decide_eq_true h38) ?_
  refine wl_move rfl rfl ?_
  refine wl_guard rfl rfl (decide_eq_true h38) ?_
  refine wl_move rfl rfl ?_
  refine wl_guard rfl rfl (decide_eq_true h38) ?_
  refine wl_neqS rfl rfl rfl ?_
  refine wl_pickT rfl (decide_eq_true h38) rfl rfl ?_
  refine wl_assign rfl rfl (wl_nil (qs_seq ?_))
  refine wc_sub (L' := [(70, _), (15, _), (18, _), (16, _), (17, _), (12, _), (13, _), (11, _), (10, _), (0, _), (1, _), (2, _), (3, _), (4, _)]) (.cons rfl (.cons rfl (.cons rfl (.cons rfl (.cons rfl (.cons rfl (.cons rfl (.cons rfl (.cons rfl (.cons rfl (.cons rfl (.cons rfl (.cons rfl (.cons rfl .nil)))))))))))))) ?_
  refine wc_condD rfl (fun h39 => ?_) (fun h39 => ?_)
  ·have hc5 : (lookV W dir name).n.k = 2 ∧ td ≠ dir := ⟨hk13, h39⟩
   refine wc_seq (wc_region (wl_assign rfl rfl (wl_assign rfl rfl (wl_nil (qs_seq (wc_ret (qs_block_ret (qs_then_ret ?_))))))))
   refine fin2 (.inr rfl) rfl rfl rfl ?_
   have hE : renE W dir name td to = 1 := by unfold renE; rw [if_neg hc0, if_neg (by assumption), if_neg (by assumption), if_neg (by simp [hb3]), if_neg hc4, if_pos hc5]
   have hrb : ¬ (renE W dir name td to = 0 ∧ renB W dir name td to = true) := by rintro ⟨q, _⟩; rw [hE] at q; first | exact absurd q (by decide) | exact absurd q (by assumption)
   exact ⟨_, rfl, by unfold renS; rw [if_neg hrb, hE], by unfold renW; rw [if_neg hrb]; exact hS13.pick [1, 3] rfl⟩
  have hc5 : ¬ ((lookV W dir name).n.k = 2 ∧ td ≠ dir) := fun q => h39 q.2
  refine wc_skip (qs_block_normal (qs_seq (wc_seq (wc_region (wl_move rfl rfl ?_)))))
  refine wl_loadA rfl ag_35 sz_35 (by first | exact hS13.blk 0 rfl | exact hS13.blk 2 rfl) (by first | decide | exact Nat.le_of_ble_eq_true rfl | (simp; done) | omega) rfl rfl ?_
  refine wl_move rfl rfl ?_
  refine wl_loadA rfl ag_35 sz_35 (by first | exact hS13.blk 0 rfl | exact hS13.blk 2 rfl) (by first | decide | exact Nat.le_of_ble_eq_true rfl | (simp; done) | omega) rfl rfl ?_
  refine wl_move rfl rfl ?_
  have hC40 := hS13.split [1] [false, true, false, false] rfl; dsimp only [selF, pickA, nthA, List.cons_append, List.nil_append] at hC40
  refine wl_call cal_83 rfl (replace_sp hC40 (hG.starL 2 rfl) hP hm (lookV W dir name).n (lookV W td to).id (by omega) (lookV W td to).n (lookV_in W td to) (lookV W td to).ok) rfl ?_
  rintro e w40 ⟨_, rfl, rfl, hS40⟩; refine ⟨_, rfl, ?_⟩
  replace hS40 := hS40.join rfl; dsimp only [List.dropLast, List.cons_append, List.nil_append] at hS40; clear hC40
  clear hS13
  refine wl_move rfl rfl (wl_extract rfl rfl rfl (wl_extract rfl rfl rfl (wl_assign rfl rfl (wl_assign rfl rfl (wl_nil (qs_seq ?_))))))
  refine wc_sub (L' := [(15, _), (19, _), (12, _), (11, _), (10, _), (0, _), (1, _), (2, _), (3, _), (4, _)]) (.cons rfl (.cons rfl (.cons rfl (.cons rfl (.cons rfl (.cons rfl (.cons rfl (.cons rfl (.cons rfl (.cons rfl .nil)))))))))) ?_
  refine wc_seq (wc_seq (wc_region (wl_move rfl rfl ?_)))
  refine wl_neq rfl rfl rfl ?_
  refine wl_nil (qs_seq ?_)
  refine wc_condD rfl (fun h41 => ?_) (fun h41 => ?_)
  ·refine wc_seq (wc_region (wl_move rfl rfl (wl_assign rfl rfl (wl_assign rfl rfl (wl_nil (qs_seq ?_))))))
   refine wc_sub (L' := [(11, _), (10, _), (19, _), (12, _), (0, _), (1, _), (2, _), (3, _), (4, _)]) (.cons rfl (.cons rfl (.cons rfl (.cons rfl (.cons rfl (.cons rfl (.cons rfl (.cons rfl (.cons rfl .nil))))))))) ?_
   refine wc_ret (qs_then_ret ?_)
   refine fin2 (.inr rfl) rfl rfl rfl ?_
   have hE : renE W dir name td to = repE W (lookV W dir name).n (lookV W td to).id (lookV W td to).n (lookV W td to).ok := by unfold renE; rw [if_neg hc0, if_neg (by assumption), if_neg (by assumption), if_neg (by simp [hb3]), if_neg hc4, if_neg hc5]
   have hrb : ¬ (renE W dir name td to = 0 ∧ renB W dir name td to = true) := by rintro ⟨q, _⟩; rw [hE] at q; first | exact absurd q (by decide) | exact absurd q (by assumption)
   have hSr := hS40.pick [0, 3] rfl; rw [repW_id (by assumption)] at hSr
   exact ⟨_, rfl, by unfold renS; rw [if_neg hrb, hE], by unfold renW; rw [if_neg hrb]; exact hSr⟩
  have hz6 : repE W (lookV W dir name).n (lookV W td to).id (lookV W td to).n (lookV W td to).ok = 0 := Decidable.not_not.1 h41
  refine wc_skip (qs_seq ?_)
  refine wc_sub (L' := [(19, _), (12, _), (11, _), (10, _), (0, _), (1, _), (2, _), (3, _), (4, _)]) (.cons rfl (.cons rfl (.cons rfl (.cons rfl (.cons rfl (.cons rfl (.cons rfl (.cons rfl (.cons rfl .nil))))))))) ?_
  refine wc_seq ?_
  have hS42 := hS40.drew
  refine wc_draw [0, 1, 2, 4, 5, 6, 3, 7] [3, 7] mix (by kernel_rfl) ?_
  refine vc_p rfl rfl rfl (fun _ => (ev_move rfl)) ?_
  refine vc_p rfl rfl rfl (fun _ => (ev_move rfl)) ?_
  refine vc_p rfl rfl rfl (fun _ => (ev_move rfl)) ?_
  refine vc_p rfl rfl rfl (fun _ => (ev_makeMeth rfl)) ?_
  refine vc_p rfl rfl rfl (fun _ => (ev_nilCheckMeth rfl (mnil_Put p))) ?_
  refine vc_p rfl rfl rfl (fun _ => (ev_move rfl)) ?_
  refine vc_s rfl rfl rfl rfl rfl rfl ?_
  have hC43 := hS42.split [] [false, false, false, false] rfl; dsimp only [selF, pickA, nthA, List.cons_append, List.nil_append] at hC43
  refine wl_call cal_70 rfl (entry_sp hC43 dir name (by omega) (by omega)) rfl ?_
  rintro e w43 ⟨_, rfl, rfl, hS43⟩; refine ⟨_, rfl, ?_⟩
  replace hS43 := hS43.join rfl; dsimp only [List.dropLast, List.cons_append, List.nil_append] at hS43; clear hC43
  clear hS42
  refine vc_e .nil ?_
  refine vc_s rfl rfl rfl rfl rfl rfl ?_
  have hC44 := hS43.split [0] [true, false, false, false] rfl; dsimp only [selF, pickA, nthA, List.cons_append, List.nil_append] at hC44
  refine wl_invoke (vs := [strV (kE dir name), strV []]) rfl (imeth_Put p) cal_23 rfl (put_sp hC44 (kE dir name) [] (by simp only [kI, kU, kE, List.length_append, List.length_cons, List.length_nil]; omega) (by simp)) rfl ?_
  rintro e w44 ⟨_, rfl, rfl, hS44⟩; refine ⟨_, rfl, ?_⟩
  replace hS44 := hS44.join rfl; dsimp only [List.dropLast, List.cons_append, List.nil_append] at hS44; clear hC44
  clear hS43
  refine vc_e .nil ?_
  refine VC.nil (qs_seq ?_)
  refine wc_sub (L' := [(19, _), (12, _), (11, _), (10, _), (0, _), (3, _), (4, _)]) (.cons rfl (.cons rfl (.cons rfl (.cons rfl (.cons rfl (.cons rfl (.cons rfl .nil))))))) ?_
  refine wc_seq ?_
  have hS45 := hS44.drew
  refine wc_draw [0, 1, 2, 4, 5, 6, 7, 3, 8] [3, 8] mix (by kernel_rfl) ?_
  refine vc_p rfl rfl rfl (fun _ => (ev_move rfl)) ?_
  refine vc_p rfl rfl rfl (fun _ => (ev_move rfl)) ?_
  refine vc_p rfl rfl rfl (fun _ => (ev_move rfl)) ?_
  refine vc_p rfl rfl rfl (fun _ => (ev_move rfl)) ?_
  refine vc_p rfl rfl rfl (fun _ => (ev_makeMeth rfl)) ?_
  refine vc_p rfl rfl rfl (fun _ => (ev_nilCheckMeth rfl (mnil_Put p))) ?_
  refine vc_p rfl rfl rfl (fun _ => (ev_move rfl)) ?_
  refine vc_s rfl rfl rfl rfl rfl rfl ?_
  have hC46 := hS45.split [] [false, false, false, false] rfl; dsimp only [selF, pickA, nthA, List.cons_append, List.nil_append] at hC46
  refine wl_call cal_70 rfl (entry_sp hC46 td to (by omega) (by omega)) rfl ?_
  rintro e w46 ⟨_, rfl, rfl, hS46⟩; refine ⟨_, rfl, ?_⟩
  replace hS46 := hS46.join rfl; dsimp only [List.dropLast, List.cons_append, List.nil_append] at hS46; clear hC46
  clear hS45
  refine vc_e .nil ?_
  refine vc_s rfl rfl rfl rfl rfl rfl ?_
  have hC47 := hS46.split [0] [true, false, false, false] rfl; dsimp only [selF, pickA, nthA, List.cons_append, List.nil_append] at hC47
  refine wl_invoke (vs := [strV (kE td to), strV (lookV W dir name).id]) rfl (imeth_Put p) cal_23 rfl (put_sp hC47 (kE td to) (lookV W dir name).id (by simp only [kI, kU, kE, List.length_append, List.length_cons, List.length_nil]; omega) (by omega)) rfl ?_
  rintro e w47 ⟨_, rfl, rfl, hS47⟩; refine ⟨_, rfl, ?_⟩
  replace hS47 := hS47.join rfl; dsimp only [List.dropLast, List.cons_append, List.nil_append] at hS47; clear hC47
  clear hS46
  refine vc_e .nil ?_
  refine VC.nil (qs_seq ?_)
  refine wc_sub (L' := [(19, _), (11, _), (10, _)]) (.cons rfl (.cons rfl (.cons rfl .nil))) ?_
  refine wc_seq (wc_region (wl_move rfl rfl (wl_assign rfl rfl (wl_assign rfl rfl (wl_nil (qs_seq (wc_ret ?_)))))))
  refine fin2 (.inr rfl) rfl rfl rfl ?_
  have hE : renE W dir name td to = 0 := by unfold renE; rw [if_neg hc0, if_neg (by assumption), if_neg (by assumption), if_neg (by simp [hb3]), if_neg hc4, if_neg hc5]; exact hz6
  have hrb : renE W dir name td to = 0 ∧ renB W dir name td to = true := ⟨hE, by unfold renB; simp only [Bool.and_eq_true, Bool.not_eq_true', Bool.and_eq_false_iff, decide_eq_false_iff_not]; exact ⟨by by_cases q : dir = td; exact .inr (fun q2 => hc4 (.inl ⟨q, q2⟩)); exact .inl q, fun q => hc4 (.inr q)⟩⟩
  exact ⟨_, rfl, by unfold renS; rw [if_pos hrb, hE], by unfold renW; rw [if_pos hrb]; exact hS47.pick [0, 3] rfl⟩
 have hc5 : ¬ ((lookV W dir name).n.k = 2 ∧ td ≠ dir) := fun q => absurd q.1 h38
 refine wl_unwanted rfl rfl (decide_eq_false h38) rfl ?_
 refine wl_unwanted rfl rfl (decide_eq_false h38) rfl ?_
 refine wl_unwanted rfl rfl (decide_eq_false h38) rfl ?_
 refine wl_pickF rfl (decide_eq_false h38) rfl rfl ?_
 refine wl_assign rfl rfl (wl_nil (qs_seq ?_))
 refine wc_sub (L' := [(70, _), (15, _), (18, _), (16, _), (17, _), (12, _), (13, _), (11, _), (10, _), (0, _), (1, _), (2, _), (3, _), (4, _)]) (.cons rfl (.cons rfl (.cons rfl (.cons rfl (.cons rfl (.cons rfl (.cons rfl (.cons rfl (.cons rfl (.cons rfl (.cons rfl (.cons rfl (.cons rfl (.cons rfl .nil)))))))))))))) ?_
 refine wc_condF rfl ?_
 refine wc_skip (qs_block_normal (qs_seq (wc_seq (wc_region (wl_move rfl rfl ?_)))))
 refine wl_loadA rfl ag_35 sz_35 (by first | exact hS13.blk 0 rfl | exact hS13.blk 2 rfl) (by first | decide | exact Nat.le_of_ble_eq_true rfl | (simp; done) | omega) rfl rfl ?_
 refine wl_move rfl rfl ?_
 refine wl_loadA rfl ag_35 sz_35 (by first | exact hS13.blk 0 rfl | exact hS13.blk 2 rfl) (by first | decide | exact Nat.le_of_ble_eq_true rfl | (simp; done) | omega) rfl rfl ?_
 refine wl_move rfl rfl ?_
 have hC48 := hS13.split [1] [false, true, false, false] rfl; dsimp only [selF, pickA, nthA, List.cons_append, List.nil_append] at hC48
 refine wl_call cal_83 rfl (replace_sp hC48 (hG.starL 2 rfl) hP hm (lookV W dir name).n (lookV W td to).id (by omega) (lookV W td to).n (lookV_in W td to) (lookV W td to).ok) rfl ?_
 rintro e w48 ⟨_, rfl, rfl, hS48⟩; refine ⟨_, rfl, ?_⟩
 replace hS48 := hS48.join rfl; dsimp only [List.dropLast, List.cons_append, List.nil_append] at hS48; clear hC48
 clear hS13
 refine wl_move rfl rfl (wl_extract rfl rfl rfl (wl_extract rfl rfl rfl (wl_assign rfl rfl (wl_assign rfl rfl (wl_nil (qs_seq ?_))))))
 refine wc_sub (L' := [(15, _), (19, _), (12, _), (11, _), (10, _), (0, _), (1, _), (2, _), (3, _), (4, _)]) (.cons rfl (.cons rfl (.cons rfl (.cons rfl (.cons rfl (.cons rfl (.cons rfl (.cons rfl (.cons rfl (.cons rfl .nil)))))))))) ?_
 refine wc_seq (wc_seq (wc_region (wl_move rfl rfl ?_)))
 refine wl_neq rfl rfl rfl ?_
 refine wl_nil (qs_seq ?_)
 refine wc_condD rfl (fun h49 => ?_) (fun h49 => ?_)
 ·refine wc_seq (wc_region (wl_move rfl rfl (wl_assign rfl rfl (wl_assign rfl rfl (wl_nil (qs_seq ?_))))))
  refine wc_sub (L' := [(11, _), (10, _), (19, _), (12, _), (0, _), (1, _), (2, _), (3, _), (4, _)]) (.cons rfl (.cons rfl (.cons rfl (.cons rfl (.cons rfl (.cons rfl (.cons rfl (.cons rfl (.cons rfl .nil))))))))) ?_
  refine wc_ret (qs_then_ret ?_)
  refine fin2 (.inr rfl) rfl rfl rfl ?_
  have hE : renE W dir name td to = repE W (lookV W dir name).n (lookV W td to).id (lookV W td to).n (lookV W td to).ok := by unfold renE; rw [if_neg hc0, if_neg (by assumption), if_neg (by assumption), if_neg (by simp [hb3]), if_neg hc4, if_neg hc5]
  have hrb : ¬ (renE W dir name td to = 0 ∧ renB W dir name td to = true) := by rintro ⟨q, _⟩; rw [hE] at q; first | exact absurd q (by decide) | exact absurd q (by assumption)
  have hSr := hS48.pick [0, 3] rfl; rw [repW_id (by assumption)] at hSr
  exact ⟨_, rfl, by unfold renS; rw [if_neg hrb, hE], by unfold renW; rw [if_neg hrb]; exact hSr⟩
 have hz6 : repE W (lookV W dir name).n (lookV W td to).id (lookV W td to).n (lookV W td to).ok = 0 := Decidable.not_not.1 h49
 refine wc_skip (qs_seq ?_)
 refine wc_sub (L' := [(19, _), (12, _), (11, _), (10, _), (0, _), (1, _), (2, _), (3, _), (4, _)]) (.cons rfl (.cons rfl (.cons rfl (.cons rfl (.cons rfl (.cons rfl (.cons rfl (.cons rfl (.cons rfl .nil))))))))) ?_
 refine wc_seq ?_
 have hS50 := hS48.drew
 refine wc_draw [0, 1, 2, 4, 5, 6, 3, 7] [3, 7] mix (by kernel_rfl) ?_
 refine vc_p rfl rfl rfl (fun _ => (ev_move rfl)) ?_
 refine vc_p rfl rfl rfl (fun _ => (ev_move rfl)) ?_
 refine vc_p rfl rfl rfl (fun _ => (ev_move rfl)) ?_
 refine vc_p rfl rfl rfl (fun _ => (ev_makeMeth rfl)) ?_
 refine vc_p rfl rfl rfl (fun _ => (ev_nilCheckMeth rfl (mnil_Put p))) ?_
 refine vc_p rfl rfl rfl (fun _ => (ev_move rfl)) ?_
 refine vc_s rfl rfl rfl rfl rfl rfl ?_
 have hC51 := hS50.split [] [false, false, false, false] rfl; dsimp only [selF, pickA, nthA, List.cons_append, List.nil_append] at hC51
 refine wl_call cal_70 rfl (entry_sp hC51 dir name (by omega) (by omega)) rfl ?_
 rintro e w51 ⟨_, rfl, rfl, hS51⟩; refine ⟨_, rfl, ?_⟩
 replace hS51 := hS51.join rfl; dsimp only [List.dropLast, List.cons_append, List.nil_append] at hS51; clear hC51
 clear hS50
 refine vc_e .nil ?_
 refine vc_s rfl rfl rfl rfl rfl rfl ?_
 have hC52 := hS51.split [0] [true, false, false, false] rfl; dsimp only [selF, pickA, nthA, List.cons_append, List.nil_append] at hC52
 refine wl_invoke (vs := [strV (kE dir name), strV []]) rfl (imeth_Put p) cal_23 rfl (put_sp hC52 (kE dir name) [] (by simp only [kI, kU, kE, List.length_append, List.length_cons, List.length_nil]; omega) (by simp)) rfl ?_
 rintro e w52 ⟨_, rfl, rfl, hS52⟩; refine ⟨_, rfl, ?_⟩
 replace hS52 := hS52.join rfl; dsimp only [List.dropLast, List.cons_append, List.nil_append] at hS52; clear hC52
 clear hS51
 refine vc_e .nil ?_
 refine VC.nil (qs_seq ?_)
 refine wc_sub (L' := [(19, _), (12, _), (11, _), (10, _), (0, _), (3, _), (4, _)]) (.cons rfl (.cons rfl (.cons rfl (.cons rfl (.cons rfl (.cons rfl (.cons rfl .nil))))))) ?_
 refine wc_seq ?_
 have hS53 := hS52.drew
 refine wc_draw [0, 1, 2, 4, 5, 6, 7, 3, 8] [3, 8] mix (by kernel_rfl) ?_
 refine vc_p rfl rfl rfl (fun _ => (ev_move rfl)) ?_
 refine vc_p rfl rfl rfl (fun _ => (ev_move rfl)) ?_
 refine vc_p rfl rfl rfl (fun _ => (ev_move rfl)) ?_
 refine vc_p rfl rfl rfl (fun _ => (ev_move rfl)) ?_
 refine vc_p rfl rfl rfl (fun _ => (ev_makeMeth rfl)) ?_
 refine vc_p rfl rfl rfl (fun _ => (ev_nilCheckMeth rfl (mnil_Put p))) ?_
 refine vc_p rfl rfl rfl (fun _ => (ev_move rfl)) ?_
 refine vc_s rfl rfl rfl rfl rfl rfl ?_
 have hC54 := hS53.split [] [false, false, false, false] rfl; dsimp only [selF, pickA, nthA, List.cons_append, List.nil_append] at hC54
 refine wl_call cal_70 rfl (entry_sp hC54 td to (by omega) (by omega)) rfl ?_
 rintro e w54 ⟨_, rfl, rfl, hS54⟩; refine ⟨_, rfl, ?_⟩
 replace hS54 := hS54.join rfl; dsimp only [List.dropLast, List.cons_append, List.nil_append] at hS54; clear hC54
 clear hS53
 refine vc_e .nil ?_
 refine vc_s rfl rfl rfl rfl rfl rfl ?_
 have hC55 := hS54.split [0] [true, false, false, false] rfl; dsimp only [selF, pickA, nthA, List.cons_append, List.nil_append] at hC55
 refine wl_invoke (vs := [strV (kE td to), strV (lookV W dir name).id]) rfl (imeth_Put p) cal_23 rfl (put_sp hC55 (kE td to) (lookV W dir name).id (by simp only [kI, kU, kE, List.length_append, List.length_cons, List.length_nil]; omega) (by omega)) rfl ?_
 rintro e w55 ⟨_, rfl, rfl, hS55⟩; refine ⟨_, rfl, ?_⟩
 replace hS55 := hS55.join rfl; dsimp only [List.dropLast, List.cons_append, List.nil_append] at hS55; clear hC55
 clear hS54
 refine vc_e .nil ?_
 refine VC.nil (qs_seq ?_)
 refine wc_sub (L' := [(19, _), (11, _), (10, _)]) (.cons rfl (.cons rfl (.cons rfl .nil))) ?_
 refine wc_seq (wc_region (wl_move rfl rfl (wl_assign rfl rfl (wl_assign rfl rfl (wl_nil (qs_seq (wc_ret ?_)))))))
 refine fin2 (.inr rfl) rfl rfl rfl ?_
 have hE : renE W dir name td to = 0 := by unfold renE; rw [if_neg hc0, if_neg (by assumption), if_neg (by assumption), if_neg (by simp [hb3]), if_neg hc4, if_neg hc5]; exact hz6
 have hrb : renE W dir name td to = 0 ∧ renB W dir name td to = true := ⟨hE, by unfold renB; simp only [Bool.and_eq_true, Bool.not_eq_true', Bool.and_eq_false_iff, decide_eq_false_iff_not]; exact ⟨by by_cases q : dir = td; exact .inr (fun q2 => hc4 (.inl ⟨q, q2⟩)); exact .inl q, fun q => hc4 (.inr q)⟩⟩
 exact ⟨_, rfl, by unfold renS; rw [if_pos hrb, hE], by unfold renW; rw [if_pos hrb]; exact hS55.pick [0, 3] rfl⟩
def initW (W : WS) : WS := putS (setI W [114] mkdI) (kU [114]) [114]
set_option maxRecDepth 100000 in
theorem init_sp {w : World} {p : Nat} {W : WS} {F : Th} (hS : Sat w [worldT p W, F]) (hG : Ent F WireG) :
    Calls Tryz.prog 21 #[.iface 25 (ptrV p 0)] w (Ret fun v w' => v = .tuple #[] ∧ Sat w' [worldT p (initW W), F]) := by
 refine calls_enter Tryz.func21 rfl Tryz.ntmps21 rfl ?_
 refine wc_seq (wc_region (wl_move rfl rfl ?_))
 refine wl_buildX (vs' := [intV mkdI.k, intV mkdI.sz, intV mkdI.ln]) rfl pl_35_0_2 asz_35 zr_35 rfl rfl rfl ?_
 have hC1 := hS.split [0] [true, false] rfl; dsimp only [selF, pickA, nthA, List.cons_append, List.nil_append] at hC1
 refine wl_call cal_43 rfl (setI_sp hC1 (hG.starL 0 rfl) [114] (by simp) mkdI_in) rfl ?_
 rintro e w1 ⟨_, rfl, rfl, hS1⟩; refine ⟨_, rfl, ?_⟩
 replace hS1 := hS1.join rfl; dsimp only [List.dropLast, List.cons_append, List.nil_append] at hS1; clear hC1
 refine wl_nil (qs_seq (wc_region (wl_move rfl rfl ?_)))
 have hC2 := hS1.split [0] [true, false] rfl; dsimp only [selF, pickA, nthA, List.cons_append, List.nil_append] at hC2
 refine wl_invoke (vs := [strV (kU [114]), strV [114]]) rfl (imeth_Put p) cal_23 rfl (put_sp hC2 (kU [114]) [114] (by simp [kU]) (by simp)) rfl ?_
 rintro e w2 ⟨_, rfl, rfl, hS2⟩; refine ⟨_, rfl, ?_⟩
 replace hS2 := hS2.join rfl; dsimp only [List.dropLast, List.cons_append, List.nil_append] at hS2; clear hC2
 clear hS1
 refine wl_nil ?_
 refine fin0 (.inl rfl) rfl ?_
 exact ⟨_, rfl, rfl, hS2.pick [0, 1] rfl⟩
end Go.Proofs.YtkaikhcpcbjkcaaGreatDoor
