/- journal: right, encode, decode -/
import Derived.Test.YtfmkodmmbgibgaaGreatDoorJn3
import Derived.Test.YtfmkodmmbgibgaaGreatDoorShelf
import Derived.Test.YtfmkodmmbgibgaaGreatDoorRefw
namespace Go.Proofs.YtfmkodmmbgibgaaGreatDoor
open Go.RowKit M
set_option linter.unusedVariables false
def bV (b : Blk) : List Value := [intV b.n, strV b.d]
def jbC : RowC Blk := ⟨bV, 2, by decide, fun _ => rfl, fun _ => rfl⟩
theorem okB_no {b : Blk} : okB b = false ↔ b.n < 0 ∨ 2048 ≤ b.n ∨ 64 < b.d.length := by
  rw [← Bool.not_eq_true, okB_iff]; omega
def bound20 (b : Blk) : Prop := inI b.n ∧ b.d.length ≤ 20000000
theorem wrong_sp {w : World} {F : Th} (hS : Sat w [F]) (x : Blk) :
    Calls Tryz.prog 82 #[.agg #[intV x.n, strV x.d]] w (Ret fun v w' => v = .bool (!(okB x)) ∧ Sat w' [F]) := by
 refine calls_enter Tryz.func82 rfl Tryz.ntmps82 rfl ?_
 refine wc_seq (wc_region ?_)
 refine wl_box hS rfl rfl rfl ?_
 intro bp wp hSp0
 have hSp : Sat wp [blkT bp [intV x.n, strV x.d], F] := hSp0
 refine wl_assign rfl rfl (wl_nil (qs_seq (wc_seq (wc_region ?_))))
 refine wl_fieldAddr rfl fo_34_0 rfl ?_
 refine wl_load rfl ag_3 (by first | assumption | exact hSp.cell 0 rfl rfl) rfl ?_
 refine wl_lss rfl rfl rfl ?_
 refine wl_move rfl rfl ?_
 refine wl_splitD 6 rfl (fun h1 => ?_) (fun h1 => ?_)
 ·refine wl_unwanted rfl rfl (decide_eq_true h1) rfl ?_
  refine wl_unwanted rfl rfl (decide_eq_true h1) rfl ?_
  refine wl_unwanted rfl rfl (decide_eq_true h1) rfl ?_
  refine wl_pickT rfl (decide_eq_true h1) rfl rfl ?_
  refine wl_move rfl rfl ?_
  refine wl_unwanted rfl rfl rfl rfl ?_
  refine wl_unwanted rfl rfl rfl rfl ?_
  refine wl_unwanted rfl rfl rfl rfl ?_
  refine wl_unwanted rfl rfl rfl rfl ?_
  refine wl_pickT rfl rfl rfl rfl ?_
  refine wl_assign rfl rfl (wl_nil (qs_seq ?_))
  refine wc_sub (L' := [(2, _)]) (.cons rfl .nil) ?_
  refine wc_ret ?_
  refine fin1 (.inr rfl) rfl rfl ?_
  exact ⟨_, rfl, by rw [okB_no.2 (by omega)]; rfl, hSp.pick [1] rfl⟩
 refine wl_guard rfl rfl (decide_eq_false h1) ?_
 refine wl_fieldAddr rfl fo_34_0 rfl ?_
 refine wl_guard rfl rfl (decide_eq_false h1) ?_
 refine wl_load rfl ag_3 (by first | assumption | exact hSp.cell 0 rfl rfl) rfl ?_
 refine wl_guard rfl rfl (decide_eq_false h1) ?_
 refine wl_geq rfl rfl rfl ?_
 refine wl_pickF rfl (decide_eq_false h1) rfl rfl ?_
 refine wl_move rfl rfl ?_
 refine wl_splitD 11 rfl (fun h2 => ?_) (fun h2 => ?_)
 ·refine wl_unwanted rfl rfl (decide_eq_true h2) rfl ?_
  refine wl_unwanted rfl rfl (decide_eq_true h2) rfl ?_
  refine wl_unwanted rfl rfl (decide_eq_true h2) rfl ?_
  refine wl_unwanted rfl rfl (decide_eq_true h2) rfl ?_
  refine wl_pickT rfl (decide_eq_true h2) rfl rfl ?_
  refine wl_assign rfl rfl (wl_nil (qs_seq ?_))
  refine wc_sub (L' := [(2, _)]) (.cons rfl .nil) ?_
  refine wc_ret ?_
  refine fin1 (.inr rfl) rfl rfl ?_
  exact ⟨_, rfl, by rw [okB_no.2 (by omega)]; rfl, hSp.pick [1] rfl⟩
 refine wl_guard rfl rfl (decide_eq_false h2) ?_
 refine wl_fieldAddr rfl fo_34_1 rfl ?_
 refine wl_guard rfl rfl (decide_eq_false h2) ?_
 refine wl_load rfl ag_9 (by first | assumption | exact hSp.cell 0 rfl rfl) rfl ?_
 refine wl_guard rfl rfl (decide_eq_false h2) ?_
 refine wl_lenS Tryz.underlying9 rfl rfl ?_
 refine wl_guard rfl rfl (decide_eq_false h2) ?_
 refine wl_gtr rfl rfl rfl ?_
 refine wl_pickF rfl (decide_eq_false h2) rfl rfl ?_
 refine wl_assign rfl rfl (wl_nil (qs_seq ?_))
 refine wc_sub (L' := [(2, _)]) (.cons rfl .nil) ?_
 refine wc_ret ?_
 refine fin1 (.inr rfl) rfl rfl ?_
 exact ⟨_, rfl, congrArg Value.bool (by rw [Bool.eq_iff_iff, decide_eq_true_eq, Bool.not_eq_true', okB_no]; omega), hSp.pick [1] rfl⟩
set_option maxRecDepth 100000 in
theorem bixf_sp {w : World} {F : Th} (hS : Sat w [F]) {lv : Value} {l : List Blk} (hL : Ent F (RdL jbC lv l)) (hln : l.length ≤ 1000000000) :
    Calls Tryz.prog 112 #[lv, .func (.func 82) #[] #[]] w (Ret fun v w' => ∃ r : Int, v = intV r ∧ (0 ≤ r ↔ l.all okB = false) ∧ Sat w' [F]) := by
 obtain ⟨ao, cap, rfl, hmax⟩ := (hL.sat hS 0 rfl).shape
 refine calls_enter Tryz.func112 rfl Tryz.ntmps112 rfl ?_
 refine wc_seq (wc_region (wl_assign rfl rfl (wl_nil (qs_seq (wc_seq (wc_seq (wc_region (wl_move rfl rfl ?_))))))))
 refine wl_lenL Tryz.underlying32 rfl rfl ?_
 refine wl_move rfl rfl (wl_nil (qs_seq (wc_block ?_)))
 refine wc_loop (fun K0 E0 W0 => ∃ (i : Nat), K0 = l.length - i ∧ E0 = [(0, .slice ao l.length cap), (1, .func (.func 82) #[] #[]), (7, intV (l.length : Int)), (8, intV (i : Int))] ∧ Sat W0 [F] ∧ (i ≤ l.length) ∧ (∀ j y, j < i → l[j]? = some y → okB y = true)) (L0 := [(0, _), (1, _), (7, _), (8, _)]) (l.length - 0) (.cons rfl (.cons rfl (.cons rfl (.cons rfl .nil)))) ⟨0, rfl, rfl, hS, by omega, by omega⟩ ?_
 rintro _ _ w1 ⟨i, rfl, rfl, hS1, hi, hno⟩
 refine wc_seq (wc_region ?_)
 refine wl_lss rfl rfl rfl ?_
 refine wl_nil (qs_seq (wc_seq ?_))
 refine wc_condD rfl (fun h2 => ?_) (fun h2 => ?_)
 ·obtain ⟨x, hx⟩ : ∃ x, l[i]? = some x := ⟨_, List.getElem?_eq_getElem (by omega)⟩
  obtain ⟨b, off, rfl, hc⟩ := (hL.sat hS1 0 rfl).get hx
  refine wc_skip (qs_seq (wc_seq (wc_block (wc_seq (wc_region (wl_move rfl rfl (wl_assign rfl rfl (wl_nil (qs_seq (wc_seq (wc_region (wl_move rfl rfl (wl_move rfl rfl (wl_move rfl rfl ?_))))))))))))))
  refine wl_indexAddr i rfl rfl (by first | rfl | omega) (by omega) es_32 rfl ?_
  refine wl_loadAt rfl ag_34 sz_34 (vs := bV x) hc rfl ?_
  have hC3 := hS1.split [] [false] rfl; dsimp only [selF, pickA, nthA, List.cons_append, List.nil_append] at hC3
  refine wl_callV rfl cal_82 rfl (wrong_sp hC3 x) rfl ?_
  rintro e w3 ⟨_, rfl, rfl, hS3⟩; refine ⟨_, rfl, ?_⟩
  replace hS3 := hS3.join rfl; dsimp only [List.dropLast, List.cons_append, List.nil_append] at hS3; clear hC3
  clear hS1
  refine wl_nil (qs_seq ?_)
  refine wc_sub (L' := [(16, _), (5, _), (0, _), (1, _), (7, _), (8, _)]) (.cons rfl (.cons rfl (.cons rfl (.cons rfl (.cons rfl (.cons rfl .nil)))))) ?_
  refine wc_cond rfl (fun h4 => ?_) (fun h4 => ?_)
  ·have hokx : okB x = false := by simpa using h4
   refine wc_seq (wc_region (wl_move rfl rfl (wl_assign rfl rfl (wl_nil (qs_seq (wc_ret (qs_block_ret (qs_then_ret (qs_then_ret (qs_block_ret (qs_then_ret ?_)))))))))))
   refine fin1 (.inr rfl) rfl rfl ?_
   exact ⟨_, rfl, _, rfl, ⟨fun _ => (by rw [← Bool.not_eq_true, List.all_eq_true]; exact fun q => by have := q x (List.mem_of_getElem? hx); rw [hokx] at this; cases this), fun _ => by omega⟩, hS3.pick [0] rfl⟩
  have hokx : okB x = true := by simpa using h4
  refine wc_skip (qs_block_normal (qs_seq (wc_region ?_)))
  refine wl_add rfl rfl (by omega) (by omega) rfl ?_
  refine wl_move rfl rfl (wl_nil ?_)
  exact qs_round (L1 := [(0, _), (1, _), (7, _), (8, intV ((i + 1 : Nat) : Int))]) (.cons rfl (.cons rfl (.cons rfl (.cons rfl .nil)))) (k1 := l.length - (i + 1)) (by omega) ⟨i + 1, rfl, rfl, hS3.pick [0] rfl, by omega, fun j y hj hq => by by_cases e : j = i; (subst e; rw [hx] at hq; cases hq; exact hokx); exact hno j y (by omega) hq⟩
 refine wc_exit (qs_then_exit (qs_then_exit (qs_block_exit (qs_seq (wc_seq (wc_region (wl_assign rfl rfl (wl_nil (qs_seq (wc_ret ?_))))))))))
 refine fin1 (.inr rfl) rfl rfl ?_
 exact ⟨_, rfl, _, rfl, ⟨fun q => absurd q (by omega), fun q => by rw [← Bool.not_eq_true, List.all_eq_true] at q; exact absurd (fun y hy => by obtain ⟨j, hj⟩ := List.mem_iff_getElem?.1 hy; exact hno j y (by have := (List.getElem?_eq_some_iff.1 hj).1; omega) hj) q⟩, hS1.pick [0] rfl⟩
theorem bctf_sp {w : World} {F : Th} (hS : Sat w [F]) {lv : Value} {l : List Blk} (hL : Ent F (RdL jbC lv l)) (hln : l.length ≤ 1000000000) :
    Calls Tryz.prog 83 #[lv, .func (.func 82) #[] #[]] w (Ret fun v w' => v = .bool (!(l.all okB)) ∧ Sat w' [F]) := by
 refine calls_enter Tryz.func83 rfl Tryz.ntmps83 rfl ?_
 refine wc_seq (wc_region (wl_assign rfl rfl (wl_nil (qs_seq (wc_seq (wc_region (wl_move rfl rfl (wl_move rfl rfl ?_))))))))
 have hC1 := hS.split [] [false] rfl; dsimp only [selF, pickA, nthA, List.cons_append, List.nil_append] at hC1
 refine wl_call cal_112 rfl (bixf_sp hC1 (hL.starL 0 rfl) hln) rfl ?_
 rintro e w1 ⟨_, rfl, r, rfl, hr, hS1⟩; refine ⟨_, rfl, ?_⟩
 replace hS1 := hS1.join rfl; dsimp only [List.dropLast, List.cons_append, List.nil_append] at hS1; clear hC1
 refine wl_geq rfl rfl rfl ?_
 refine wl_assign rfl rfl (wl_nil (qs_seq (wc_ret ?_)))
 refine fin1 (.inr rfl) rfl rfl ?_
 exact ⟨_, rfl, congrArg Value.bool (by rw [Bool.eq_iff_iff, decide_eq_true_eq, Bool.not_eq_true', hr]), hS1.pick [0] rfl⟩
set_option maxRecDepth 100000 in
theorem jright_sp {w : World} {F : Th} (hS : Sat w [F]) {lv : Value} {l : List Blk} (hL : Ent F (RdL jbC lv l)) (hln : l.length ≤ 1000000000) :
    Calls Tryz.prog 39 #[lv] w (Ret fun v w' => v = .bool (rightJ l) ∧ Sat w' [F]) := by
 obtain ⟨ao, cap, rfl, hmax⟩ := (hL.sat hS 0 rfl).shape
 refine calls_enter Tryz.func39 rfl Tryz.ntmps39 rfl ?_
 refine wc_seq (wc_region (wl_assign rfl rfl (wl_nil (qs_seq (wc_seq (wc_region (wl_assign rfl rfl (wl_nil (qs_seq (wc_seq (wc_region (wl_move rfl rfl ?_))))))))))))
 refine wl_lenL Tryz.underlying32 rfl rfl ?_
 refine wl_leq rfl rfl rfl ?_
 refine wl_move rfl rfl ?_
 refine wl_splitD 7 rfl (fun h1 => ?_) (fun h1 => ?_)
 ·refine wl_guard rfl rfl (decide_eq_true h1) ?_
  refine wl_move rfl rfl ?_
  refine wl_guard rfl rfl (decide_eq_true h1) ?_
  refine wl_move rfl rfl ?_
  refine wl_guard rfl rfl (decide_eq_true h1) ?_
  have hC2 := hS.split [] [false] rfl; dsimp only [selF, pickA, nthA, List.cons_append, List.nil_append] at hC2
  refine wl_call cal_83 rfl (bctf_sp hC2 (hL.starL 0 rfl) hln) rfl ?_
  rintro e w2 ⟨_, rfl, rfl, hS2⟩; refine ⟨_, rfl, ?_⟩
  replace hS2 := hS2.join rfl; dsimp only [List.dropLast, List.cons_append, List.nil_append] at hS2; clear hC2
  refine wl_guard rfl rfl (decide_eq_true h1) ?_
  refine wl_not rfl rfl ?_
  refine wl_pickT rfl (decide_eq_true h1) rfl rfl ?_
  refine wl_assign rfl rfl (wl_nil (qs_seq ?_))
  refine wc_sub (L' := [(2, _)]) (.cons rfl .nil) ?_
  refine wc_ret ?_
  refine fin1 (.inr rfl) rfl rfl ?_
  exact ⟨_, rfl, by unfold rightJ; rw [decide_eq_true (by omega : l.length ≤ 2048), Bool.true_and, Bool.not_not], hS2.pick [0] rfl⟩
 refine wl_unwanted rfl rfl (decide_eq_false h1) rfl ?_
 refine wl_unwanted rfl rfl (decide_eq_false h1) rfl ?_
 refine wl_unwanted rfl rfl (decide_eq_false h1) rfl ?_
 refine wl_unwanted rfl rfl (decide_eq_false h1) rfl ?_
 refine wl_pickF rfl (decide_eq_false h1) rfl rfl ?_
 refine wl_assign rfl rfl (wl_nil (qs_seq ?_))
 refine wc_sub (L' := [(2, _)]) (.cons rfl .nil) ?_
 refine wc_ret ?_
 refine fin1 (.inr rfl) rfl rfl ?_
 exact ⟨_, rfl, by unfold rightJ; rw [decide_eq_false (by omega : ¬ l.length ≤ 2048), Bool.false_and], hS.pick [0] rfl⟩
theorem wNum_sp {w : World} {F : Th} (hS : Sat w [F]) (hG : Ent F WireG) (n : Int) (hn : inI n) (h0 : 0 ≤ n) :
    Calls Tryz.prog 85 #[intV n] w (Ret fun v w' => v = strV (encN n) ∧ Sat w' [F]) := by
 refine calls_enter Tryz.func85 rfl Tryz.ntmps85 rfl ?_
 refine wc_seq (wc_region (wl_assign rfl rfl (wl_nil (qs_seq (wc_seq (wc_seq (wc_region (wl_move rfl rfl ?_))))))))
 refine wl_lss rfl rfl rfl ?_
 refine wl_nil (qs_seq ?_)
 refine wc_condD rfl (fun h1 => ?_) (fun h1 => ?_)
 ·exact absurd h1 (by omega)
 refine wc_skip (qs_seq (wc_seq (wc_region (wl_move rfl rfl ?_))))
 have hC2 := hS.split [] [false] rfl; dsimp only [selF, pickA, nthA, List.cons_append, List.nil_append] at hC2
 refine wl_call cal_78 rfl (wInt_sp hC2 (hG.starL 0 rfl) n hn) rfl ?_
 rintro e w2 ⟨_, rfl, rfl, hS2⟩; refine ⟨_, rfl, ?_⟩
 replace hS2 := hS2.join rfl; dsimp only [List.dropLast, List.cons_append, List.nil_append] at hS2; clear hC2
 refine wl_assign rfl rfl (wl_nil (qs_seq (wc_ret ?_)))
 refine fin1 (.inr rfl) rfl rfl ?_
 exact ⟨_, rfl, rfl, hS2⟩
theorem encT_len1 {s : Bs} (h : s.length ≤ 20000000) : (encT s).length ≤ s.length + 40 := by
  have h1 := (itoa_len (n := (s.length : Int)) (by unfold inI; omega)).1
  unfold encT
  simp only [List.length_append, List.length_cons, List.length_nil]; omega
set_option maxRecDepth 100000 in
theorem encode_sp {w : World} {F : Th} (hS : Sat w [F]) (hG : Ent F WireG) {lv : Value} {l : List Blk} (hL : Ent F (RdL jbC lv l)) (hln : l.length ≤ 1000000000) (hok : ∀ x ∈ l, bound20 x) (hz : (l.flatMap encB).length ≤ 1000000000000) :
    Calls Tryz.prog 40 #[lv] w (Ret fun v w' => v = strV (encJ l) ∧ Sat w' [F]) := by
 obtain ⟨ao, cap, rfl, hmax⟩ := (hL.sat hS 0 rfl).shape
 refine calls_enter Tryz.func40 rfl Tryz.ntmps40 rfl ?_
 have hnl := encN_len (n := (l.length : Int)) (by unfold inI; omega)
 refine wc_seq (wc_region (wl_assign rfl rfl (wl_nil (qs_seq (wc_seq (wc_region ?_))))))
 refine wl_allocT hS zr_120 (cs := [.pointer none, .slice none 0 0]) rfl rfl ?_
 intro bb wB hSB
 have hSC := bldT_shut (.inl rfl) ((bufT_nil hSB).perm (List.Perm.swap _ _ _))
 refine wl_nil (qs_seq (wc_seq (wc_region (wl_move rfl rfl ?_))))
 refine wl_lenL Tryz.underlying32 rfl rfl ?_
 have hC1 := hSC.split [] [false, false] rfl; dsimp only [selF, pickA, nthA, List.cons_append, List.nil_append] at hC1
 refine wl_call cal_85 rfl (wNum_sp hC1 (hG.starL 1 rfl) (l.length : Int) (by unfold inI; omega) (by omega)) rfl ?_
 rintro e w1 ⟨_, rfl, rfl, hS1⟩; refine ⟨_, rfl, ?_⟩
 replace hS1 := hS1.join rfl; dsimp only [List.dropLast, List.cons_append, List.nil_append] at hS1; clear hC1
 clear hSC
 have hC2 := hS1.split [0] [true, false] rfl; dsimp only [selF, pickA, nthA, List.cons_append, List.nil_append] at hC2
 refine wl_call cal_84 rfl (bl_writeString hC2 (encN (l.length : Int)) (by simp only [List.length_nil]; omega)) rfl ?_
 rintro e w2 ⟨_, rfl, rfl, hS2⟩; refine ⟨_, rfl, ?_⟩
 replace hS2 := hS2.join rfl; dsimp only [List.dropLast, List.cons_append, List.nil_append] at hS2; clear hC2
 clear hS1
 refine wl_nil (qs_seq (wc_seq (wc_seq (wc_region (wl_move rfl rfl ?_)))))
 refine wl_lenL Tryz.underlying32 rfl rfl ?_
 refine wl_move rfl rfl (wl_nil (qs_seq (wc_block ?_)))
 refine wc_loop (fun K0 E0 W0 => ∃ (i : Nat), K0 = l.length - i ∧ E0 = [(3, ptrV bb 0), (10, .slice ao l.length cap), (11, intV (l.length : Int)), (12, intV (i : Int))] ∧ Sat W0 [bldT bb (encN (l.length : Int) ++ (l.take i).flatMap encB), F] ∧ (i ≤ l.length)) (L0 := [(3, _), (10, _), (11, _), (12, _)]) (l.length - 0) (.cons rfl (.cons rfl (.cons rfl (.cons rfl .nil)))) ⟨0, rfl, rfl, (by rw [List.take_zero, List.flatMap_nil, List.append_nil]; exact hS2), by omega⟩ ?_
 rintro _ _ w3 ⟨i, rfl, rfl, hS3, hi⟩
 have hft := flat_take l i
 refine wc_seq (wc_region ?_)
 refine wl_lss rfl rfl rfl ?_
 refine wl_nil (qs_seq (wc_seq ?_))
 refine wc_condD rfl (fun h4 => ?_) (fun h4 => ?_)
 ·obtain ⟨x, hx⟩ : ∃ x, l[i]? = some x := ⟨_, List.getElem?_eq_getElem (by omega)⟩
  obtain ⟨b, off, rfl, hc⟩ := (hL.sat hS3 1 rfl).get hx
  have hox := hok x (List.mem_of_getElem? hx)
  have hxl := encB_fit hox.1 (by have := hox.2; omega)
  have hox2 := hox.2
  refine wc_skip (qs_seq (wc_seq (wc_block (wc_seq (wc_region ?_)))))
  refine wl_indexAddr i rfl rfl (by first | rfl | omega) (by omega) es_32 rfl ?_
  refine wl_loadAt rfl ag_34 sz_34 (vs := bV x) hc rfl ?_
  refine wl_alloc hS3 zr_34 rfl rfl ?_
  intro b5 w5 hS5
  clear hS3
  first | (refine wl_storeA hS5 rfl rfl sz_34 rfl (by first | rfl | (simp [allOne, Value.oneCell']; done) | assumption | exact hone) (i := 0) rfl (by first | decide | exact Nat.le_of_ble_eq_true rfl | (simp; done) | omega) ?_) | (refine wl_storeA hS5 rfl rfl sz_34 rfl (by first | rfl | (simp [allOne, Value.oneCell']; done) | assumption | exact hone) (i := 1) rfl (by first | decide | exact Nat.le_of_ble_eq_true rfl | (simp; done) | omega) ?_)
  intro w6 hS7; dsimp only [List.set] at hS7
  clear hS5
  refine wl_nil (qs_seq ?_)
  have hS8 := hS7.drew
  refine wc_draw [0, 1, 3, 4, 2, 5, 6, 7] [2, 5, 7] mix (by kernel_rfl) ?_
  refine vc_p rfl rfl rfl (fun _ => (ev_fieldAddr rfl fo_34_0)) ?_
  refine vc_q rfl rfl rfl (ev_load rfl ag_3 (by first | assumption | exact hS8.cell 0 rfl rfl | exact hS8.cell 1 rfl rfl)) ?_
  refine vc_p rfl rfl rfl (fun _ => (ev_fieldAddr rfl fo_34_1)) ?_
  refine vc_q rfl rfl rfl (ev_load rfl ag_9 (by first | assumption | exact hS8.cell 0 rfl rfl | exact hS8.cell 1 rfl rfl)) ?_
  refine vc_s rfl rfl rfl rfl rfl rfl ?_
  have hC9 := hS8.split [] [false, false, false] rfl; dsimp only [selF, pickA, nthA, List.cons_append, List.nil_append] at hC9
  refine wl_call cal_78 rfl (wInt_sp hC9 (hG.starL 2 rfl) x.n hox.1) rfl ?_
  rintro e w9 ⟨_, rfl, rfl, hS9⟩; refine ⟨_, rfl, ?_⟩
  replace hS9 := hS9.join rfl; dsimp only [List.dropLast, List.cons_append, List.nil_append] at hS9; clear hC9
  clear hS8
  have hil := (itoa_len hox.1).1
  refine vc_e (.cons (.inl ⟨rfl, (ev_load rfl ag_9 (by first | assumption | exact hS9.cell 0 rfl rfl | exact hS9.cell 1 rfl rfl))⟩) (.skip (by kernel_rfl) .nil)) ?_
  refine vc_s rfl rfl rfl rfl rfl rfl ?_
  have hC10 := hS9.split [] [false, false, false] rfl; dsimp only [selF, pickA, nthA, List.cons_append, List.nil_append] at hC10
  refine wl_call cal_86 rfl (wText_sp hC10 (hG.starL 2 rfl) x.d hox.2) rfl ?_
  rintro e w10 ⟨_, rfl, rfl, hS10⟩; refine ⟨_, rfl, ?_⟩
  replace hS10 := hS10.join rfl; dsimp only [List.dropLast, List.cons_append, List.nil_append] at hS10; clear hC10
  clear hS9
  have htl := encT_len1 hox.2
  refine vc_e (.skip (by kernel_rfl) (.skip (by kernel_rfl) .nil)) ?_
  refine vc_p rfl rfl rfl (fun _ => (ev_concat rfl rfl (by first | omega | (simp; omega)))) ?_
  refine vc_s rfl rfl rfl rfl rfl rfl ?_
  have hC11 := hS10.split [1] [false, true, false] rfl; dsimp only [selF, pickA, nthA, List.cons_append, List.nil_append] at hC11
  refine wl_call cal_84 rfl (bl_writeString hC11 (encB x) (by rw [List.length_append]; omega)) rfl ?_
  rintro e w11 ⟨_, rfl, rfl, hS11⟩; refine ⟨_, rfl, ?_⟩
  replace hS11 := hS11.join rfl; dsimp only [List.dropLast, List.cons_append, List.nil_append] at hS11; clear hC11
  clear hS10
  refine vc_e (.skip (by kernel_rfl) (.skip (by kernel_rfl) .nil)) ?_
  refine VC.nil (qs_block_normal (qs_seq ?_))
  refine wc_sub (L' := [(3, _), (10, _), (11, _), (12, _)]) (.cons rfl (.cons rfl (.cons rfl (.cons rfl .nil)))) ?_
  refine wc_region ?_
  refine wl_add rfl rfl (by first | omega | (simp; omega)) (by first | omega | (simp; omega)) rfl ?_
  refine wl_move rfl rfl (wl_nil ?_)
  exact qs_round (L1 := [(3, _), (10, _), (11, _), (12, intV ((i + 1 : Nat) : Int))]) (.cons rfl (.cons rfl (.cons rfl (.cons rfl .nil)))) (k1 := l.length - (i + 1)) (by omega) ⟨i + 1, rfl, rfl, by rw [flat_snoc hx, ← List.append_assoc]; exact hS11.pick [0, 2] rfl, by omega⟩
 refine wc_exit (qs_then_exit (qs_then_exit (qs_block_exit (qs_seq (wc_seq (wc_region ?_))))))
 have hC12 := hS3.split [0] [true, false] rfl; dsimp only [selF, pickA, nthA, List.cons_append, List.nil_append] at hC12
 refine wl_call cal_87 rfl (bl_string hC12 (by rw [List.length_append]; omega)) rfl ?_
 rintro e w12 ⟨_, rfl, rfl, hS12⟩; refine ⟨_, rfl, ?_⟩
 replace hS12 := hS12.join rfl; dsimp only [List.dropLast, List.cons_append, List.nil_append] at hS12; clear hC12
 clear hS3
 refine wl_assign rfl rfl (wl_nil (qs_seq (wc_ret ?_)))
 refine fin1 (.inr rfl) rfl rfl ?_
 exact ⟨_, rfl, by rw [List.take_of_length_le (by omega)]; rfl, hS12.pick [0] rfl⟩
theorem bkSt_len (n : Nat) (s : St) : (bkSt n s).1.length ≤ s.1.length := by
  have := bks_fit n s; omega
theorem raw_ok {s : Bs} (h : s.length ≤ 20000000) : (∀ x ∈ rawJ s, bound20 x) ∧ ((rawJ s).flatMap encB).length ≤ 1000000000000 := by
  have h1 := raw_fit s
  have h2 : ∀ x ∈ rawJ s, bound20 x := fun x hx => ⟨bks_in x hx, by have := sumD_mem hx; omega⟩
  refine ⟨h2, ?_⟩
  have h3 := flat_fit (l := rawJ s) fun x hx => ⟨(h2 x hx).1, by have := (h2 x hx).2; omega⟩
  omega
set_option maxRecDepth 100000 in
theorem decode_sp {w : World} {F : Th} (hS : Sat w [F]) (hG : Ent F WireG) (s : Bs) (hz : s.length ≤ 20000000) :
    Calls Tryz.prog 79 #[strV s] w (Ret fun v w' => ∃ lv, v = .tuple #[lv, .bool (okJ s)] ∧ Sat w' [rowT jbC lv (rawJ s), F]) := by
 refine calls_enter Tryz.func79 rfl Tryz.ntmps79 rfl ?_
 refine wc_seq (wc_region (wl_assign rfl rfl (wl_assign rfl rfl (wl_nil (qs_seq (wc_seq (wc_region (wl_move rfl rfl ?_))))))))
 have hC1 := hS.split [] [false] rfl; dsimp only [selF, pickA, nthA, List.cons_append, List.nil_append] at hC1
 refine wl_call cal_76 rfl (wOpen_sp hC1 s) rfl ?_
 rintro e w1 ⟨_, rfl, rb, rfl, hS1⟩; refine ⟨_, rfl, ?_⟩
 replace hS1 := hS1.join rfl; dsimp only [List.dropLast, List.cons_append, List.nil_append] at hS1; clear hC1
 refine wl_assign rfl rfl (wl_nil (qs_seq (wc_seq (wc_region (wl_assign rfl rfl (wl_nil (qs_seq (wc_seq (wc_seq ?_)))))))))
 have hnn := numV_nn 59 (s, false)
 refine wc_region (wl_move rfl rfl ?_)
 have hC2 := hS1.split [0] [true, false] rfl; dsimp only [selF, pickA, nthA, List.cons_append, List.nil_append] at hC2
 refine wl_call cal_110 rfl (rNum_sp hC2 (hG.starL 0 rfl) (by dsimp only; omega)) rfl ?_
 rintro e w2 ⟨_, rfl, rfl, hS2⟩; refine ⟨_, rfl, ?_⟩
 replace hS2 := hS2.join rfl; dsimp only [List.dropLast, List.cons_append, List.nil_append] at hS2; clear hC2
 clear hS1
 refine wl_minI rfl rfl rfl ?_
 refine wl_move rfl rfl (wl_nil (qs_seq ?_))
 refine wc_sub (L' := [(11, _), (10, _), (5, _), (4, _), (3, _), (2, _), (0, _)]) (.cons rfl (.cons rfl (.cons rfl (.cons rfl (.cons rfl (.cons rfl (.cons rfl .nil))))))) ?_
 refine wc_block ?_
 refine wc_loop (fun K0 E0 W0 => ∃ (i : Nat) (ov : Value), K0 = 2049 - i ∧ E0 = [(0, strV s), (4, ptrV rb 0), (5, ov), (10, intV (min (numV 59 0 (s, false)) 2049)), (11, intV (i : Int))] ∧ Sat W0 [readT rb (bkSt i (numR 59 0 (s, false))), rowT jbC ov (bksV i (numR 59 0 (s, false))), F] ∧ ((i : Int) ≤ (min (numV 59 0 (s, false)) 2049))) (L0 := [(0, _), (4, _), (5, _), (10, _), (11, _)]) (2049 - 0) (.cons rfl (.cons rfl (.cons rfl (.cons rfl (.cons rfl .nil))))) ⟨0, _, rfl, rfl, (hS2.row_nil jbC).pick [1, 0, 2] rfl, by omega⟩ ?_
 rintro _ _ w3 ⟨i, ov, rfl, rfl, hS3, hi⟩
 have hsl := bkSt_len i (numR 59 0 (s, false))
 have hrl := bksV_len i (numR 59 0 (s, false))
 have hs0 := numR_len 59 0 (s, false)
 dsimp only at hs0
 have h1ov : ov.oneCell' = true := hS3.own_one 1 rfl
 refine wc_seq (wc_region ?_)
 refine wl_lss rfl rfl rfl ?_
 refine wl_nil (qs_seq (wc_seq ?_))
 refine wc_condD rfl (fun h4 => ?_) (fun h4 => ?_)
 ·refine wc_skip (qs_seq (wc_seq (wc_block (wc_region (wl_move rfl rfl (wl_move rfl rfl ?_))))))
  have hq1 := numR_len 59 (-9223372036854775808) (bkSt i (numR 59 0 (s, false)))
  have hC5 := hS3.split [0] [true, false, false] rfl; dsimp only [selF, pickA, nthA, List.cons_append, List.nil_append] at hC5
  refine wl_call cal_77 rfl (rInt_sp hC5 (hG.starL 1 rfl) (by omega)) rfl ?_
  rintro e w5 ⟨_, rfl, rfl, hS5⟩; refine ⟨_, rfl, ?_⟩
  replace hS5 := hS5.join rfl; dsimp only [List.dropLast, List.cons_append, List.nil_append] at hS5; clear hC5
  clear hS3
  refine wl_move rfl rfl ?_
  have hC6 := hS5.split [0] [true, false, false] rfl; dsimp only [selF, pickA, nthA, List.cons_append, List.nil_append] at hC6
  refine wl_call cal_111 rfl (rText_sp hC6 (hG.starL 1 rfl) (by omega)) rfl ?_
  rintro e w6 ⟨_, rfl, rfl, hS6⟩; refine ⟨_, rfl, ?_⟩
  replace hS6 := hS6.join rfl; dsimp only [List.dropLast, List.cons_append, List.nil_append] at hS6; clear hC6
  clear hS5
  refine wl_buildS rfl pl_34_0_1 asz_34 zr_34 rfl rfl ?_
  refine wl_rowBuild jbC [bkV (bkSt i (numR 59 0 (s, false)))] hS6 rfl Tryz.underlying32 ifz_34 rfl rfl rfl rfl (by first | rfl | simp [RowC.cells, fillL, splice]) rfl ?_
  intro b7 w7 hS7
  clear hS6
  refine wl_rowApp jbC 2 hS7 rfl rfl rfl (hS7.rd 0 rfl (by simp)) Tryz.underlying32 Tryz.underlying32 (by intro k hk; cases hk) ifo_34 rfl (by simp only [List.length_cons, List.length_nil]; omega) rfl (by simp only [List.length_cons, List.length_nil]; omega) ?_
  intro v8 w8 hS8; dsimp only [List.set] at hS8
  clear hS7
  have h1v8 : v8.oneCell' = true := hS8.own_one 2 rfl
  refine wl_assign rfl rfl (wl_nil (qs_block_normal (qs_seq ?_)))
  refine wc_sub (L' := [(5, _), (0, _), (4, _), (10, _), (11, _)]) (.cons rfl (.cons rfl (.cons rfl (.cons rfl (.cons rfl .nil))))) ?_
  refine wc_region ?_
  refine wl_add rfl rfl (by first | omega | (simp; omega)) (by first | omega | (simp; omega)) rfl ?_
  refine wl_move rfl rfl (wl_nil ?_)
  exact qs_round (L1 := [(0, _), (4, _), (5, _), (10, _), (11, intV ((i + 1 : Nat) : Int))]) (.cons rfl (.cons rfl (.cons rfl (.cons rfl (.cons rfl .nil))))) (k1 := 2049 - (i + 1)) (by omega) ⟨i + 1, _, rfl, rfl, (by rw [bksV_succ]; exact hS8.pick [1, 2, 3] rfl), by omega⟩
 refine wc_exit (qs_then_exit (qs_then_exit (qs_block_exit (qs_seq (wc_seq ?_)))))
 have hni2 : cntJ s = i := by unfold cntJ; omega
 have hraw : bksV i (numR 59 0 (s, false)) = rawJ s := by unfold rawJ; rw [hni2]
 rw [hraw] at hS3 hrl
 refine wc_region (wl_move rfl rfl (wl_move rfl rfl ?_))
 have hC9 := hS3.split [] [false, false, false] rfl; dsimp only [selF, pickA, nthA, List.cons_append, List.nil_append] at hC9
 refine wl_call cal_40 rfl (encode_sp hC9 (hG.starL 2 rfl) (Ent.starL (ent_row (C := jbC) (l := rawJ s) (by omega)) 1 rfl) (by omega) (raw_ok hz).1 (raw_ok hz).2) rfl ?_
 rintro e w9 ⟨_, rfl, rfl, hS9⟩; refine ⟨_, rfl, ?_⟩
 replace hS9 := hS9.join rfl; dsimp only [List.dropLast, List.cons_append, List.nil_append] at hS9; clear hC9
 clear hS3
 refine wl_move rfl rfl ?_
 refine wl_eqlS rfl rfl rfl ?_
 refine wl_move rfl rfl ?_
 refine wl_splitD 27 rfl (fun h10 => ?_) (fun h10 => ?_)
 ·refine wl_guard rfl rfl (decide_eq_true h10) ?_
  refine wl_move rfl rfl ?_
  refine wl_guard rfl rfl (decide_eq_true h10) ?_
  have hC11 := hS9.split [] [false, false, false] rfl; dsimp only [selF, pickA, nthA, List.cons_append, List.nil_append] at hC11
  refine wl_call cal_39 rfl (jright_sp hC11 (Ent.starL (ent_row (C := jbC) (l := rawJ s) (by omega)) 1 rfl) (by omega)) rfl ?_
  rintro e w11 ⟨_, rfl, rfl, hS11⟩; refine ⟨_, rfl, ?_⟩
  replace hS11 := hS11.join rfl; dsimp only [List.dropLast, List.cons_append, List.nil_append] at hS11; clear hC11
  clear hS9
  refine wl_pickT rfl (decide_eq_true h10) rfl rfl ?_
  refine wl_assign rfl rfl (wl_assign rfl rfl (wl_nil (qs_seq ?_)))
  refine wc_sub (L' := [(3, _), (2, _)]) (.cons rfl (.cons rfl .nil)) ?_
  refine wc_ret ?_
  refine fin2 (.inr rfl) rfl rfl rfl ?_
  exact ⟨_, rfl, _, by unfold okJ; rw [decide_eq_true (by assumption), Bool.true_and], hS11.pick [1, 2] rfl⟩
 refine wl_unwanted rfl rfl (decide_eq_false h10) rfl ?_
 refine wl_unwanted rfl rfl (decide_eq_false h10) rfl ?_
 refine wl_pickF rfl (decide_eq_false h10) rfl rfl ?_
 refine wl_assign rfl rfl (wl_assign rfl rfl (wl_nil (qs_seq ?_)))
 refine wc_sub (L' := [(3, _), (2, _)]) (.cons rfl (.cons rfl .nil)) ?_
 refine wc_ret ?_
 refine fin2 (.inr rfl) rfl rfl rfl ?_
 exact ⟨_, rfl, _, by unfold okJ; rw [decide_eq_false (by assumption), Bool.false_and], hS9.pick [1, 2] rfl⟩
end Go.Proofs.YtfmkodmmbgibgaaGreatDoor
/- Functions that are handed as values and called one after the other, up to the first that does not answer 0. Conditions: the rules' own hypotheses. -/
namespace Go.Proofs.YtfmkodmmbgibgaaGreatDoor.M
open Go.RowKit
section
variable {P : Program} {n : Nat} {ops : Array Oper} {Q : Exit → Act → World → Prop} {rest : List Oper} {L : Env} {w : World} {ty : TypeId} {pos : String} {aft : Array Edge}
/-- a call of a function value, bound or a closure, without arguments -/
theorem wl_callF {dst : Option Nat} {x : Operand} {f : Nat} {fs cap : List Value} {ts : Array TypeId} {R : Ending → World → Prop} (hx : look L x = some (.func (.func f) fs.toArray cap.toArray)) (hf : callB P f = true) (hc : Calls P f (fs ++ cap).toArray w R) (hd : (match dst with | some d => Nat.blt d n | none => true) = true)
    (hk : ∀ e w', R e w' → ∃ v, e = .returned v ∧ wl P n ops Q rest (pd dst v L) w') : wl P n ops Q (⟨dst, .call ⟨.value x, #[], ts⟩, ty, pos, aft, none⟩ :: rest) L w := by
  unfold wl
  intro a hfr
  refine wpList_plain rfl fun K hK => ?_
  unfold Oper.wp
  have hr : (execOp a.eval ⟨dst, .call ⟨.value x, #[], ts⟩, ty, pos, aft, none⟩).run P w = .ok (.enter f (fs ++ cap).toArray) w := by
    simp only [execOp, resolve, hfr.eval hx, Deferred.ofValue, invoke]
    simp [callB_run hf]
  rw [hr]
  refine Calls.mono hc fun e w' hR => ?_
  obtain ⟨v, rfl, h⟩ := hk e w' hR
  unfold wl at h
  exact hK _ _ (h _ (hfr.put dst v hd))
end
/-- a function value -/
structure FnV where
  f : Nat
  fs : List Value
  cap : List Value
def FnV.v (g : FnV) : Value := .func (.func g.f) g.fs.toArray g.cap.toArray
def fnC : RowC FnV := ⟨fun g => [g.v], 1, by decide, fun _ => rfl, fun _ => rfl⟩
/-- calls, one after the other, up to the first that does not answer 0 -/
def runW {σ : Type} : List (σ → Int × σ) → σ → Int × σ
  | [], x => (0, x)
  | g :: gs, x => if (g x).1 ≠ 0 then g x else runW gs (g x).2
/-- what a function value does: it takes the state x of the things T to (g x).2, and answers (g x).1; the things C stay -/
def Stp {σ : Type} (P : Program) (T : σ → Th) (C : Th) (I : σ → Prop) (v : FnV) (g : σ → Int × σ) : Prop :=
  callB P v.f = true ∧ ∀ (x : σ) (w : World) (X : Th), I x → Sat w [T x, C, X] → Calls P v.f (v.fs ++ v.cap).toArray w (Ret fun u w' => u = intV (g x).1 ∧ I (g x).2 ∧ Sat w' [T (g x).2, C, X])
theorem runW_step {σ : Type} {gs : List (σ → Int × σ)} {i : Nat} {g : σ → Int × σ} (h : gs[i]? = some g) (x : σ) : runW (gs.drop i) x = if (g x).1 ≠ 0 then g x else runW (gs.drop (i + 1)) (g x).2 := by
  obtain ⟨hi, h2⟩ := List.getElem?_eq_some_iff.1 h
  rw [List.drop_eq_getElem_cons hi, h2]; rfl
theorem runW_end {σ : Type} {gs : List (σ → Int × σ)} {i : Nat} (h : gs.length ≤ i) (x : σ) : runW (gs.drop i) x = (0, x) := by
  rw [List.drop_eq_nil_iff.2 h]; rfl
end Go.Proofs.YtfmkodmmbgibgaaGreatDoor.M
