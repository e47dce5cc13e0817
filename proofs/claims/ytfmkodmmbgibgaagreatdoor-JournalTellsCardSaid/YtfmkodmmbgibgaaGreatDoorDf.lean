/- disk: Write, Sync, Truncate -/
import Derived.Test.YtfmkodmmbgibgaaGreatDoorDd
import Derived.Test.YtfmkodmmbgibgaaGreatDoorOp4
import Derived.Test.YtfmkodmmbgibgaaGreatDoorFx
namespace Go.Proofs.YtfmkodmmbgibgaaGreatDoor
open Go.RowKit M
set_option linter.unusedVariables false
theorem diskT_keep {w : World} {As : List Th} {p : Nat} {kp : Value} {D : DS} (hS : Sat w As) (i : Nat) (hi : As[i]? = some (diskT p kp D)) : w.cell? ⟨p, 0 + 6, none⟩ = some kp := by
  obtain ⟨L, _, h⟩ := diskT_open (hS.pull i hi)
  exact h.cell 0 rfl rfl
theorem diskT_inv {w : World} {As : List Th} {p : Nat} {kp : Value} {D : DS} (hS : Sat w As) (i : Nat) (hi : As[i]? = some (diskT p kp D)) : DInv D := by
  obtain ⟨L, h, _⟩ := diskT_open (hS.pull i hi)
  exact h
theorem endsD_keep (D : DS) : (endsD D).keep = D.keep := by unfold endsD; split <;> rfl
theorem writeD_keep (D : DS) (f a : Int) (s : Bytes) : (writeD D f a s).keep = D.keep := by unfold writeD addD; split <;> (try split) <;> rfl
theorem Write_sp {w : World} {p : Nat} {kp : Value} {D : DS} {F : Th} (hS : Sat w [diskT p kp D, F]) (hK : Ent F (RdI kp D.keep)) (f at_ : Int) (s : Bytes) :
    Calls Tryz.prog 20 #[ptrV p 0, intV f, intV at_, strV s] w (Ret fun v w' => v = intV (WriteE D f at_ s) ∧ Sat w' [diskT p kp (WriteD D f at_ s), F]) := by
 refine calls_enter Tryz.func20 rfl Tryz.ntmps20 rfl ?_
 refine wc_seq (wc_region (wl_assign rfl rfl (wl_nil (qs_seq (wc_seq (wc_region (wl_move rfl rfl ?_)))))))
 have hC1 := hS.split [0] [true, false] rfl; dsimp only [selF, pickA, nthA, List.cons_append, List.nil_append] at hC1
 refine wl_call cal_54 rfl (ends_sp hC1) rfl ?_
 rintro e w1 ⟨_, rfl, rfl, hS1⟩; refine ⟨_, rfl, ?_⟩
 replace hS1 := hS1.join rfl; dsimp only [List.dropLast, List.cons_append, List.nil_append] at hS1; clear hC1
 refine wl_assign rfl rfl (wl_nil (qs_seq (wc_seq (wc_region (wl_move rfl rfl (wl_move rfl rfl (wl_move rfl rfl (wl_move rfl rfl ?_))))))))
 have hC2 := hS1.split [0] [true, false] rfl; dsimp only [selF, pickA, nthA, List.cons_append, List.nil_append] at hC2
 refine wl_call cal_55 rfl (write_sp hC2 f at_ s) rfl ?_
 rintro e w2 ⟨_, rfl, rfl, hS2⟩; refine ⟨_, rfl, ?_⟩
 replace hS2 := hS2.join rfl; dsimp only [List.dropLast, List.cons_append, List.nil_append] at hS2; clear hC2
 clear hS1
 refine wl_assign rfl rfl (wl_nil (qs_seq ?_))
 refine wc_sub (L' := [(10, _), (9, _), (8, _), (0, _)]) (.cons rfl (.cons rfl (.cons rfl (.cons rfl .nil)))) ?_
 refine wc_seq (wc_seq (wc_region (wl_move rfl rfl (wl_nil (qs_seq ?_)))))
 refine wc_cond rfl (fun h3 => ?_) (fun h3 => ?_)
 ·have hb : endsB D = true := h3
  refine wc_seq (wc_region (wl_move rfl rfl (wl_move rfl rfl (wl_nilCheck rfl rfl ?_))))
  refine wl_fieldAddr rfl fo_67_6 rfl ?_
  refine wl_load rfl ag_40 (by first | assumption | exact diskT_keep hS2 0 rfl) rfl ?_
  have hC4 := hS2.split [0] [true, false] rfl; dsimp only [selF, pickA, nthA, List.cons_append, List.nil_append] at hC4
  refine wl_call cal_18 rfl (crash_sp hC4 (hK.starL 0 rfl)) rfl ?_
  rintro e w4 ⟨_, rfl, rfl, hS4⟩; refine ⟨_, rfl, ?_⟩
  replace hS4 := hS4.join rfl; dsimp only [List.dropLast, List.cons_append, List.nil_append] at hS4; clear hC4
  clear hS2
  refine wl_nil (qs_seq ?_)
  refine wc_sub (L' := [(10, _), (8, _)]) (.cons rfl (.cons rfl .nil)) ?_
  refine wc_seq (wc_region (wl_assign rfl rfl (wl_nil (qs_seq (wc_ret (qs_then_ret ?_))))))
  refine fin1 (.inr rfl) rfl rfl ?_
  exact ⟨_, rfl, by simp [WriteE, hb], by simp only [WriteD, hb]; exact hS4⟩
 have hb : endsB D = false := h3
 refine wc_skip (qs_seq (wc_seq (wc_region (wl_move rfl rfl (wl_assign rfl rfl (wl_nil (qs_seq (wc_ret ?_))))))))
 refine fin1 (.inr rfl) rfl rfl ?_
 exact ⟨_, rfl, by simp [WriteE, hb], by simp only [WriteD, hb]; exact hS2⟩
theorem lateD_yes {D : DS} (h : endsB D = true) : lateD D = crashD (endsD D) D.keep := by simp [lateD, h]
theorem lateD_no {D : DS} (h : endsB D = false) : lateD D = endsD D := by simp [lateD, h]
theorem Sync_sp {w : World} {p : Nat} {kp : Value} {D : DS} {F : Th} (hS : Sat w [diskT p kp D, F]) (hK : Ent F (RdI kp D.keep)) (f : Int) :
    Calls Tryz.prog 22 #[ptrV p 0, intV f] w (Ret fun v w' => v = intV (SyncE D f) ∧ Sat w' [diskT p kp (SyncD D f), F]) := by
 refine calls_enter Tryz.func22 rfl Tryz.ntmps22 rfl ?_
 refine wc_seq (wc_region (wl_assign rfl rfl (wl_nil (qs_seq ?_))))
 refine wc_mid (fun E0 W0 => E0 = [(0, ptrV p 0), (1, intV f), (4, intV 0)] ∧ Sat W0 [diskT p kp (lateD D), F]) ?_ ?_
 ·refine wc_seq (wc_region (wl_move rfl rfl ?_))
  have hC2 := hS.split [0] [true, false] rfl; dsimp only [selF, pickA, nthA, List.cons_append, List.nil_append] at hC2
  refine wl_call cal_54 rfl (ends_sp hC2) rfl ?_
  rintro e w2 ⟨_, rfl, rfl, hS2⟩; refine ⟨_, rfl, ?_⟩
  replace hS2 := hS2.join rfl; dsimp only [List.dropLast, List.cons_append, List.nil_append] at hS2; clear hC2
  refine wl_nil (qs_seq ?_)
  refine wc_cond rfl (fun h3 => ?_) (fun h3 => ?_)
  ·have hb : endsB D = true := h3
   refine wc_region (wl_move rfl rfl (wl_move rfl rfl (wl_nilCheck rfl rfl ?_)))
   refine wl_fieldAddr rfl fo_67_6 rfl ?_
   refine wl_load rfl ag_40 (by first | assumption | exact diskT_keep hS2 0 rfl) rfl ?_
   have hC4 := hS2.split [0] [true, false] rfl; dsimp only [selF, pickA, nthA, List.cons_append, List.nil_append] at hC4
   refine wl_call cal_18 rfl (crash_sp hC4 (hK.starL 0 rfl)) rfl ?_
   rintro e w4 ⟨_, rfl, rfl, hS4⟩; refine ⟨_, rfl, ?_⟩
   replace hS4 := hS4.join rfl; dsimp only [List.dropLast, List.cons_append, List.nil_append] at hS4; clear hC4
   clear hS2
   refine wl_nil ?_
   exact qs_mid (.cons rfl (.cons rfl (.cons rfl .nil))) ⟨rfl, by rw [lateD_yes hb]; exact hS4⟩
  have hb : endsB D = false := h3
  refine wc_skip ?_
  exact qs_mid (.cons rfl (.cons rfl (.cons rfl .nil))) ⟨rfl, by rw [lateD_no hb]; exact hS2⟩
 rintro _ w1 ⟨rfl, hS1⟩
 refine wc_seq (wc_seq (wc_region (wl_move rfl rfl (wl_move rfl rfl ?_))))
 refine wl_call cal_60 rfl (may_sp (hS1) f) rfl ?_
 rintro e _ ⟨_, rfl, rfl, rfl⟩; refine ⟨_, rfl, ?_⟩
 refine wl_assign rfl rfl (wl_nil (qs_seq (wc_seq (wc_region (wl_move rfl rfl ?_)))))
 refine wl_neq rfl rfl rfl ?_
 refine wl_nil (qs_seq ?_)
 refine wc_condD rfl (fun h6 => ?_) (fun h6 => ?_)
 ·have hm : mayE (lateD D) f ≠ 0 := h6
  refine wc_seq (wc_region (wl_move rfl rfl (wl_assign rfl rfl (wl_nil (qs_seq (wc_ret (qs_then_ret ?_)))))))
  refine fin1 (.inr rfl) rfl rfl ?_
  exact ⟨_, rfl, by simp [SyncE, hm], by simp only [SyncD, if_pos hm]; exact hS1⟩
 have hm : mayE (lateD D) f = 0 := Decidable.not_not.1 h6
 refine wc_skip (qs_seq (wc_seq (wc_seq ?_)))
 obtain ⟨⟨bf, bs, qv⟩, hI, hS1⟩ := diskT_open (hS1.pull 0 rfl); dsimp only [List.eraseIdx] at hS1
 obtain ⟨g, hg, hS1⟩ := filesT_open (hS1.pull 1 rfl); dsimp only [List.eraseIdx] at hS1
 refine wc_region (wl_move rfl rfl (wl_nilCheck rfl rfl ?_))
 refine wl_fieldAddr rfl fo_67_3 rfl ?_
 refine wl_load rfl ag_3 (by first | assumption | exact hS1.cell 1 rfl rfl | exact diskT_keep hS1 0 rfl) rfl ?_
 refine wl_gtr rfl rfl rfl ?_
 refine wl_nil (qs_seq ?_)
 refine wc_sub (L' := [(24, _), (0, _), (1, _), (4, _)]) (.cons rfl (.cons rfl (.cons rfl (.cons rfl .nil)))) ?_
 refine wc_condD rfl (fun h7 => ?_) (fun h7 => ?_)
 ·have hl : 0 < (lateD D).lost := h7
  have hll := hI.lost
  refine wc_seq (wc_region (wl_move rfl rfl (wl_nilCheck rfl rfl ?_)))
  refine wl_fieldAddr rfl fo_67_3 rfl ?_
  refine wl_load rfl ag_3 (by first | assumption | exact hS1.cell 1 rfl rfl | exact diskT_keep hS1 0 rfl) rfl ?_
  refine wl_sub' rfl rfl (by omega) (by omega) rfl ?_
  refine wl_nilCheck rfl rfl ?_
  refine wl_fieldAddr rfl fo_67_3 rfl ?_
  first | (refine wl_store hS1 rfl rfl sz_3 (by first | rfl | assumption | exact hS1.own_one 2 rfl) (i := 1) rfl (by first | decide | exact Nat.le_of_ble_eq_true rfl | (simp; done) | omega) ?_)
  intro w8 hS9; dsimp only [List.set] at hS9
  clear hS1
  refine wl_nil (qs_seq ?_)
  refine wc_sub (L' := [(0, _), (1, _), (4, _)]) (.cons rfl (.cons rfl (.cons rfl .nil))) ?_
  refine wc_seq (wc_region (wl_assign rfl rfl (wl_nil (qs_seq (wc_ret (qs_then_ret ?_))))))
  refine fin1 (.inr rfl) rfl rfl ?_
  exact ⟨_, rfl, by rw [SyncE, if_neg (by simp [hm]), if_pos hl], by rw [SyncD, if_neg (by simp [hm]), if_pos hl]; exact Dback { hI with lost := ⟨by simp; omega, by have := hI.lost; simp; omega⟩ } hg hS9⟩
 have hl : ¬ 0 < (lateD D).lost := h7
 refine wc_skip (qs_seq (wc_seq (wc_region (wl_move rfl rfl (wl_move rfl rfl (wl_move rfl rfl (wl_nilCheck rfl rfl ?_)))))))
 refine wl_fieldAddr rfl fo_67_0 rfl ?_
 refine wl_load rfl ag_63 (by first | assumption | exact hS1.cell 1 rfl rfl | exact diskT_keep hS1 0 rfl) rfl ?_
 refine wl_move rfl rfl ?_
 refine wl_lookup 0 hS1 keysInt Tryz.underlying63 rfl rfl rfl zr_87 (hg _) rfl ?_
 refine wl_field fv_87_0 rfl rfl rfl ?_
 replace hS1 := Dback hI hg hS1
 have hC10 := hS1.split [0] [true, false] rfl; dsimp only [selF, pickA, nthA, List.cons_append, List.nil_append] at hC10
 refine wl_call cal_61 rfl (settle_sp hC10 f _ (hI.now f)) rfl ?_
 rintro e w10 ⟨_, rfl, rfl, hS10⟩; refine ⟨_, rfl, ?_⟩
 replace hS10 := hS10.join rfl; dsimp only [List.dropLast, List.cons_append, List.nil_append] at hS10; clear hC10
 clear hS1
 refine wl_nil (qs_seq ?_)
 refine wc_sub (L' := [(4, _)]) (.cons rfl .nil) ?_
 refine wc_seq (wc_region (wl_assign rfl rfl (wl_nil (qs_seq (wc_ret ?_)))))
 refine fin1 (.inr rfl) rfl rfl ?_
 exact ⟨_, rfl, by rw [SyncE, if_neg (by simp [hm]), if_neg hl], by rw [SyncD, if_neg (by simp [hm]), if_neg hl]; exact hS10⟩
theorem trunc_may {w : World} {p : Nat} {kp : Value} {D : DS} {F : Th} {f size : Int} (hm : mayE (lateD D) f ≠ 0) (h : Sat w [diskT p kp (lateD D), F]) : Ret (fun v w' => v = intV (TruncE D f size) ∧ Sat w' [diskT p kp (TruncD D f size), F]) (.returned (intV (mayE (lateD D) f))) w := by
  have e : TruncE D f size = mayE (lateD D) f := by rw [TruncE, if_pos hm]
  exact ⟨_, rfl, by rw [e], by rw [TruncD, e, if_neg hm]; exact h⟩
theorem trunc_arg {w : World} {p : Nat} {kp : Value} {D : DS} {F : Th} {f size : Int} (hm : mayE (lateD D) f = 0) (hx : size < 0 ∨ (((lateD D).F f).1.length : Int) < size) (h : Sat w [diskT p kp (lateD D), F]) : Ret (fun v w' => v = intV (TruncE D f size) ∧ Sat w' [diskT p kp (TruncD D f size), F]) (.returned (intV 1)) w := by
  have e : TruncE D f size = 1 := by rw [TruncE, if_neg (by simp [hm]), if_pos hx]
  exact ⟨_, rfl, by rw [e], by rw [TruncD, e, if_neg (by decide)]; exact h⟩
theorem trunc_ok {w : World} {p : Nat} {kp : Value} {D : DS} {F : Th} {f : Int} {n : Nat} (hm : mayE (lateD D) f = 0) (hx : ¬ ((n : Int) < 0 ∨ (((lateD D).F f).1.length : Int) < n)) (h : Sat w [diskT p kp (settleD (lateD D) f ((((lateD D).F f).1.take n).drop 0)), F]) : Ret (fun v w' => v = intV (TruncE D f n) ∧ Sat w' [diskT p kp (TruncD D f n), F]) (.returned (intV 0)) w := by
  have e : TruncE D f n = 0 := by rw [TruncE, if_neg (by simp [hm]), if_neg hx]
  rw [List.drop_zero] at h
  exact ⟨_, rfl, by rw [e], by rw [TruncD, if_pos e]; simpa using h⟩
theorem Trunc_sp {w : World} {p : Nat} {kp : Value} {D : DS} {F : Th} (hS : Sat w [diskT p kp D, F]) (hK : Ent F (RdI kp D.keep)) (f size : Int) :
    Calls Tryz.prog 42 #[ptrV p 0, intV f, intV size] w (Ret fun v w' => v = intV (TruncE D f size) ∧ Sat w' [diskT p kp (TruncD D f size), F]) := by
 refine calls_enter Tryz.func42 rfl Tryz.ntmps42 rfl ?_
 refine wc_seq (wc_region (wl_assign rfl rfl (wl_nil (qs_seq ?_))))
 refine wc_mid (fun E0 W0 => E0 = [(0, ptrV p 0), (1, intV f), (2, intV size), (6, intV 0)] ∧ Sat W0 [diskT p kp (lateD D), F]) ?_ ?_
 ·refine wc_seq (wc_region (wl_move rfl rfl ?_))
  have hC2 := hS.split [0] [true, false] rfl; dsimp only [selF, pickA, nthA, List.cons_append, List.nil_append] at hC2
  refine wl_call cal_54 rfl (ends_sp hC2) rfl ?_
  rintro e w2 ⟨_, rfl, rfl, hS2⟩; refine ⟨_, rfl, ?_⟩
  replace hS2 := hS2.join rfl; dsimp only [List.dropLast, List.cons_append, List.nil_append] at hS2; clear hC2
  refine wl_nil (qs_seq ?_)
  refine wc_cond rfl (fun h3 => ?_) (fun h3 => ?_)
  ·have hb : endsB D = true := h3
   refine wc_region (wl_move rfl rfl (wl_move rfl rfl (wl_nilCheck rfl rfl ?_)))
   refine wl_fieldAddr rfl fo_67_6 rfl ?_
   refine wl_load rfl ag_40 (by first | assumption | exact diskT_keep hS2 0 rfl) rfl ?_
   have hC4 := hS2.split [0] [true, false] rfl; dsimp only [selF, pickA, nthA, List.cons_append, List.nil_append] at hC4
   refine wl_call cal_18 rfl (crash_sp hC4 (hK.starL 0 rfl)) rfl ?_
   rintro e w4 ⟨_, rfl, rfl, hS4⟩; refine ⟨_, rfl, ?_⟩
   replace hS4 := hS4.join rfl; dsimp only [List.dropLast, List.cons_append, List.nil_append] at hS4; clear hC4
   clear hS2
   refine wl_nil ?_
   exact qs_mid (.cons rfl (.cons rfl (.cons rfl (.cons rfl .nil)))) ⟨rfl, by rw [lateD_yes hb]; exact hS4⟩
  have hb : endsB D = false := h3
  refine wc_skip ?_
  exact qs_mid (.cons rfl (.cons rfl (.cons rfl (.cons rfl .nil)))) ⟨rfl, by rw [lateD_no hb]; exact hS2⟩
 rintro _ w1 ⟨rfl, hS1⟩
 refine wc_seq (wc_seq (wc_region (wl_move rfl rfl (wl_move rfl rfl ?_))))
 refine wl_call cal_60 rfl (may_sp (hS1) f) rfl ?_
 rintro e _ ⟨_, rfl, rfl, rfl⟩; refine ⟨_, rfl, ?_⟩
 refine wl_assign rfl rfl (wl_nil (qs_seq (wc_seq (wc_region (wl_move rfl rfl ?_)))))
 refine wl_neq rfl rfl rfl ?_
 refine wl_nil (qs_seq ?_)
 refine wc_condD rfl (fun h6 => ?_) (fun h6 => ?_)
 ·have hm : mayE (lateD D) f ≠ 0 := h6
  refine wc_seq (wc_region (wl_move rfl rfl (wl_assign rfl rfl (wl_nil (qs_seq ?_)))))
  refine wc_sub (L' := [(6, _), (0, _), (1, _), (2, _)]) (.cons rfl (.cons rfl (.cons rfl (.cons rfl .nil)))) ?_
  refine wc_ret (qs_then_ret ?_)
  refine fin1 (.inr rfl) rfl rfl ?_
  exact trunc_may hm hS1
 have hm : mayE (lateD D) f = 0 := Decidable.not_not.1 h6
 refine wc_skip (qs_seq (wc_seq (wc_seq (wc_region (wl_move rfl rfl ?_)))))
 refine wl_lss rfl rfl rfl ?_
 refine wl_move rfl rfl ?_
 refine wl_splitD 24 rfl (fun h7 => ?_) (fun h7 => ?_)
 ·refine wl_unwanted rfl rfl (decide_eq_true h7) rfl ?_
  refine wl_unwanted rfl rfl (decide_eq_true h7) rfl ?_
  refine wl_unwanted rfl rfl (decide_eq_true h7) rfl ?_
  refine wl_unwanted rfl rfl (decide_eq_true h7) rfl ?_
  refine wl_unwanted rfl rfl (decide_eq_true h7) rfl ?_
  refine wl_pickT rfl (decide_eq_true h7) rfl rfl ?_
  refine wl_nil (qs_seq ?_)
  refine wc_sub (L' := [(30, _), (0, _), (1, _), (2, _), (6, _)]) (.cons rfl (.cons rfl (.cons rfl (.cons rfl (.cons rfl .nil))))) ?_
  refine wc_condT rfl ?_
  refine wc_seq (wc_region (wl_assign rfl rfl (wl_nil (qs_seq (wc_ret (qs_then_ret ?_))))))
  refine fin1 (.inr rfl) rfl rfl ?_
  exact trunc_arg hm (by omega) hS1
 refine wl_guard rfl rfl (decide_eq_false h7) ?_
 refine wl_move rfl rfl ?_
 refine wl_guard rfl rfl (decide_eq_false h7) ?_
 refine wl_move rfl rfl ?_
 refine wl_guard rfl rfl (decide_eq_false h7) ?_
 refine wl_move rfl rfl ?_
 refine wl_guard rfl rfl (decide_eq_false h7) ?_
 refine wl_call cal_32 rfl (size_sp (hS1) f) rfl ?_
 rintro e _ ⟨_, rfl, rfl, rfl⟩; refine ⟨_, rfl, ?_⟩
 refine wl_guard rfl rfl (decide_eq_false h7) ?_
 refine wl_gtr rfl rfl rfl ?_
 refine wl_pickF rfl (decide_eq_false h7) rfl rfl ?_
 refine wl_nil (qs_seq ?_)
 refine wc_sub (L' := [(30, _), (0, _), (1, _), (2, _), (6, _)]) (.cons rfl (.cons rfl (.cons rfl (.cons rfl (.cons rfl .nil))))) ?_
 refine wc_condD rfl (fun h9 => ?_) (fun h9 => ?_)
 ·refine wc_seq (wc_region (wl_assign rfl rfl (wl_nil (qs_seq (wc_ret (qs_then_ret ?_))))))
  refine fin1 (.inr rfl) rfl rfl ?_
  exact trunc_arg hm (by omega) hS1
 obtain ⟨n, rfl⟩ := Int.eq_ofNat_of_zero_le (show 0 ≤ size by omega)
 refine wc_skip (qs_seq (wc_seq ?_))
 obtain ⟨⟨bf, bs, qv⟩, hI, hS1⟩ := diskT_open (hS1.pull 0 rfl); dsimp only [List.eraseIdx] at hS1
 obtain ⟨g, hg, hS1⟩ := filesT_open (hS1.pull 1 rfl); dsimp only [List.eraseIdx] at hS1
 refine wc_region (wl_move rfl rfl (wl_move rfl rfl (wl_move rfl rfl (wl_nilCheck rfl rfl ?_))))
 refine wl_fieldAddr rfl fo_67_0 rfl ?_
 refine wl_load rfl ag_63 (by first | assumption | exact hS1.cell 1 rfl rfl | exact diskT_keep hS1 0 rfl) rfl ?_
 refine wl_move rfl rfl ?_
 refine wl_lookup 0 hS1 keysInt Tryz.underlying63 rfl rfl rfl zr_87 (hg _) rfl ?_
 refine wl_field fv_87_0 rfl rfl rfl ?_
 refine wl_move rfl rfl ?_
 refine wl_sliceS 0 n Tryz.underlying9 rfl (bndN _) (bndS n _ rfl rfl) (by omega) (by omega) rfl ?_
 replace hS1 := Dback hI hg hS1
 have hC10 := hS1.split [0] [true, false] rfl; dsimp only [selF, pickA, nthA, List.cons_append, List.nil_append] at hC10
 refine wl_call cal_61 rfl (settle_sp hC10 f _ (by simp; have := hI.now f; omega)) rfl ?_
 rintro e w10 ⟨_, rfl, rfl, hS10⟩; refine ⟨_, rfl, ?_⟩
 replace hS10 := hS10.join rfl; dsimp only [List.dropLast, List.cons_append, List.nil_append] at hS10; clear hC10
 clear hS1
 refine wl_nil (qs_seq ?_)
 refine wc_sub (L' := [(6, _)]) (.cons rfl .nil) ?_
 refine wc_seq (wc_region (wl_assign rfl rfl (wl_nil (qs_seq (wc_ret ?_)))))
 refine fin1 (.inr rfl) rfl rfl ?_
 exact trunc_ok hm (by omega) hS10
end Go.Proofs.YtfmkodmmbgibgaaGreatDoor
/- disk: Arm -/
namespace Go.Proofs.YtfmkodmmbgibgaaGreatDoor
open Go.RowKit M
set_option linter.unusedVariables false
def intsV (l : List Int) : List Value := l.map intV
theorem intsV_length (l : List Int) : (intsV l).length = l.length := by simp [intsV]
theorem intsV_one (l : List Int) : allOne (intsV l) = true := allOne_mk (by intro v hv; obtain ⟨x, _, rfl⟩ := List.mem_map.1 hv; rfl)
theorem RdI.nil {n cap : Nat} {l : List Int} {w : World} (h : RdI (.slice none n cap) l w) : l = [] := by
  cases l with
  | nil => rfl
  | cons x l => obtain ⟨b, off, h1, _⟩ := h.get (i := 0) (x := x) rfl; cases h1
theorem RdI.lenOf {v : Value} {l : List Int} {w : World} (h : RdI v l w) : ∀ w1, (Builtin.lenOf v).run Tryz.prog w1 = .ok l.length w1 := by
  obtain ⟨ao, cap, rfl, _⟩ := h.shape
  exact lenOf_slice _ _ _
theorem RdI.first {v : Value} {l : List Int} {w : World} (h : RdI v l w) : ∀ w1 : World, w1.heap = w.heap → (Builtin.firstCells 1 l.length v).run Tryz.prog w1 = .ok (intsV l).toArray w1 := by
  obtain ⟨ao, cap, rfl, _⟩ := h.shape
  intro w1 hw
  cases hl : l with
  | nil => cases ao <;> simp [Builtin.firstCells, intsV, loadCells, loadCellsFrom]
  | cons x l' =>
    obtain ⟨b, off, rfl, _⟩ := h.get (i := 0) (x := x) (by rw [hl]; rfl)
    rw [← hl]
    simp only [Builtin.firstCells, Nat.mul_one]
    have := run_loadCells_list (P := Tryz.prog) w1 ⟨b, off, none⟩ (intsV l) (fun j v hv => by
      rw [addr_add]
      simp only [intsV, List.getElem?_map] at hv
      obtain ⟨y, hy, rfl⟩ := Option.map_eq_some_iff.1 hv
      obtain ⟨b2, o2, e, hc⟩ := h.get hy
      cases e
      rw [Nat.mul_one] at hc
      rw [World.cell?_of_block (w := w) (by rw [hw])]
      exact hc)
    rw [intsV_length] at this
    exact this
theorem ent_own_RdI {v : Value} {l : List Int} (hl : l.length ≤ 9223372036854775807) : Ent (ownT v l.length 1 (intsV l)) (RdI v l) := by
  rintro w G ⟨f, _, hl2, ⟨rfl, h0, _⟩ | ⟨b, cap, sp, rfl, hc, hb, _, _⟩⟩
  · have : l = [] := List.eq_nil_of_length_eq_zero h0
    subst this
    exact ⟨none, 0, rfl, by simp, by simp⟩
  · refine ⟨_, cap, rfl, hl, fun i x hx => ⟨b, 0, rfl, ?_⟩⟩
    refine hb.cell ?_
    have hi := (List.getElem?_eq_some_iff.1 hx).1
    rw [Nat.zero_add, List.getElem?_append_left (by rw [intsV_length]; exact hi)]
    simp [intsV, hx]
theorem cloneI_sp {w : World} {F : Th} (hS : Sat w [F]) {kv : Value} {ks : List Int} (hK : Ent F (RdI kv ks)) (hl : ks.length ≤ 20000000) :
    Calls Tryz.prog 52 #[kv] w (Ret fun v w' => Sat w' [ownT v ks.length 1 (intsV ks), F]) := by
 have hrd := hK.sat hS 0 rfl
 obtain ⟨ao, capk, rfl, hkmax⟩ := hrd.shape
 refine calls_enter Tryz.func52 rfl Tryz.ntmps52 rfl ?_
 refine wc_seq (wc_region (wl_assign rfl rfl (wl_nil (qs_seq (wc_seq (wc_seq (wc_region (wl_move rfl rfl ?_))))))))
 refine wl_eqlSlNil Tryz.underlying40 rfl rfl rfl ?_
 refine wl_nil (qs_seq ?_)
 refine wc_cond rfl (fun h1 => ?_) (fun h1 => ?_)
 ·have hn : ao = none := Option.isNone_iff_eq_none.1 h1
  subst hn
  obtain rfl := hrd.nil
  refine wc_seq (wc_region (wl_assign rfl rfl (wl_nil (qs_seq (wc_ret (qs_then_ret ?_))))))
  refine fin1 (.inr rfl) rfl rfl ?_
  exact ⟨_, rfl, hS.new (Only.refl [] _) (A := ownT (.slice none 0 0) 0 1 []) (F' := fun k => k ∈ ([] : List Nat)) ⟨[], rfl, Own.nil _ 1⟩ (by simp)⟩
 refine wc_skip (qs_seq (wc_seq (wc_region ?_)))
 refine wl_buildSlice hS rfl Tryz.underlying40 ifz_3 rfl rfl rfl rfl ?_
 intro b2 w2 hS2
 refine wl_move rfl rfl ?_
 have hrd1 := hK.sat hS2 1 rfl
 first | refine wl_append 0 hS2 rfl rfl rfl Tryz.underlying40 Tryz.underlying40 (by intro k hk; cases hk) ifo_3 rfl (by decide) hrd1.lenOf hrd1.first (by rw [intsV_length]; omega) (intsV_one _) (by omega) (by omega) rfl ?_
 intro v3 w3 hS3; dsimp only [List.set] at hS3
 clear hS2
 have h1v3 : v3.oneCell' = true := by first | exact hS3.own_one 0 rfl
 refine wl_assign rfl rfl (wl_nil (qs_seq (wc_ret ?_)))
 refine fin1 (.inr rfl) rfl rfl ?_
 exact ⟨_, rfl, by have h := hS3; rw [Nat.zero_add] at h; exact h⟩
theorem arm_end {w : World} {p bf bs : Nat} {kv qv : Value} {D : DS} {ks : List Int} {F : Th} {n : Int} (hI : DInv D) (hn : n ≤ 9223372036854775807) (h : Sat w [ownT kv ks.length 1 (intsV ks), blkT p [.map (some bf), qv, .map (some bs), intV D.lost, .bool D.down, intV (max n 0), kv], filesT bf D.F, ownT qv D.Q.length 2 (secV D.Q), setT bs D.Q, F]) : Sat w [diskT p kv { D with armed := max n 0, keep := ks }, ownT kv ks.length 1 (intsV ks), F] := by
  have h1 := diskT_shut (D := { D with armed := max n 0, keep := ks }) (As := [F, ownT kv ks.length 1 (intsV ks)]) ⟨bf, bs, qv⟩ { hI with armed := ⟨by simp; omega, by simp; omega⟩ } (h.reorder [1, 2, 3, 4, 5, 0] rfl)
  exact h1.reorder [0, 2, 1] rfl
theorem arm_sp {w : World} {p : Nat} {kp : Value} {D : DS} {F : Th} (hS : Sat w [diskT p kp D, F]) (n : Int) (hn : n ≤ 9223372036854775807) {kv : Value} {ks : List Int} (hK : Ent F (RdI kv ks)) (hl : ks.length ≤ 20000000) :
    Calls Tryz.prog 14 #[ptrV p 0, intV n, kv] w (Ret fun v w' => ∃ kv', v = .tuple #[] ∧ Sat w' [diskT p kv' { D with armed := max n 0, keep := ks }, ownT kv' ks.length 1 (intsV ks), F]) := by
 obtain ⟨⟨bf, bs, qv⟩, hI, hS⟩ := diskT_open hS; dsimp only at hS
 refine calls_enter Tryz.func14 rfl Tryz.ntmps14 rfl ?_
 refine wc_region (wl_move rfl rfl (wl_move rfl rfl (wl_move rfl rfl ?_)))
 refine wl_maxI rfl rfl rfl ?_
 refine wl_move rfl rfl ?_
 have hC1 := hS.split [] [false, false, false, false, false] rfl; dsimp only [selF, pickA, nthA, List.cons_append, List.nil_append] at hC1
 refine wl_call cal_52 rfl (cloneI_sp hC1 (hK.starL 4 rfl) hl) rfl ?_
 rintro e w1 ⟨_, rfl, hS1⟩; refine ⟨_, rfl, ?_⟩
 replace hS1 := hS1.join rfl; dsimp only [List.dropLast, List.cons_append, List.nil_append] at hS1; clear hC1
 have h1k := hS1.own_one 0 rfl
 refine wl_nilCheck rfl rfl ?_
 refine wl_fieldAddr rfl fo_67_5 rfl ?_
 first | (refine wl_store hS1 rfl rfl sz_3 (by first | rfl | assumption | exact hS1.own_one 0 rfl | exact hS1.own_one 3 rfl) (i := 1) rfl (by first | decide | exact Nat.le_of_ble_eq_true rfl | (simp; done) | omega) ?_)
 intro w2 hS3; dsimp only [List.set] at hS3
 clear hS1
 refine wl_nilCheck rfl rfl ?_
 refine wl_fieldAddr rfl fo_67_6 rfl ?_
 first | (refine wl_store hS3 rfl rfl sz_40 (by first | rfl | assumption | exact hS3.own_one 0 rfl | exact hS3.own_one 3 rfl) (i := 1) rfl (by first | decide | exact Nat.le_of_ble_eq_true rfl | (simp; done) | omega) ?_)
 intro w4 hS5; dsimp only [List.set] at hS5
 clear hS3
 refine wl_nil ?_
 refine fin0 (.inl rfl) rfl ?_
 exact ⟨_, rfl, _, rfl, arm_end hI hn hS5⟩
end Go.Proofs.YtfmkodmmbgibgaaGreatDoor
/- disk: with its keep; plain facts -/
namespace Go.Proofs.YtfmkodmmbgibgaaGreatDoor
open Go.RowKit M
set_option linter.unusedVariables false
theorem crashD_keep (D : DS) (k : List Int) : (crashD D k).keep = D.keep := by unfold crashD; split <;> rfl
theorem lateD_keep (D : DS) : (lateD D).keep = D.keep := by unfold lateD; split; rw [crashD_keep, endsD_keep]; exact endsD_keep D
theorem SyncD_keep (D : DS) (f : Int) : (SyncD D f).keep = D.keep := by unfold SyncD; split; exact lateD_keep D; split <;> exact lateD_keep D
theorem TruncD_keep (D : DS) (f s : Int) : (TruncD D f s).keep = D.keep := by unfold TruncD; split <;> exact lateD_keep D
theorem WriteD_keep (D : DS) (f a : Int) (s : Bytes) : (WriteD D f a s).keep = D.keep := by simp only [WriteD]; split; rw [crashD_keep, writeD_keep, endsD_keep]; rw [writeD_keep, endsD_keep]
def startD (D : DS) : DS := { D with down := false }
def dT (p : Nat) (D : DS) : Th := exT fun kp : Value => starL [pureT (D.keep.length ≤ 1000), diskT p kp D, ownT kp D.keep.length 1 (intsV D.keep)]
theorem dT_open {w : World} {p : Nat} {D : DS} {As : List Th} (h : Sat w (dT p D :: As)) : ∃ kp, D.keep.length ≤ 1000 ∧ Sat w (diskT p kp D :: ownT kp D.keep.length 1 (intsV D.keep) :: As) := by
  obtain ⟨kp, h⟩ := h.ex
  exact ⟨kp, h.flat.pure_elim⟩
theorem dT_shut {w : World} {p : Nat} {D : DS} {As : List Th} (kp : Value) (hl : D.keep.length ≤ 1000) (h : Sat w (diskT p kp D :: ownT kp D.keep.length 1 (intsV D.keep) :: As)) : Sat w (dT p D :: As) :=
  Sat.ex_intro kp (Sat.fold (As := [pureT (D.keep.length ≤ 1000), diskT p kp D, ownT kp D.keep.length 1 (intsV D.keep)]) (Sat.pure_intro hl h))
theorem dT_new {w : World} {p : Nat} {F : Th} (h : Sat w [diskT p (.slice none 0 0) newD, F]) : Sat w [dT p newD, F] := by
  have h3 := h.new (Only.refl [] w) (A := ownT (.slice none 0 0) 0 1 []) (F' := fun k => k ∈ ([] : List Nat)) ⟨[], rfl, Own.nil w 1⟩ (by simp)
  exact dT_shut (.slice none 0 0) (by simp [newD]) (h3.reorder [1, 0, 2] rfl)
theorem keep_ent {kp : Value} {D : DS} {F : Th} (h : D.keep.length ≤ 1000) : Ent (starL [ownT kp D.keep.length 1 (intsV D.keep), F]) (RdI kp D.keep) := Ent.starL (A := ownT kp D.keep.length 1 (intsV D.keep)) (ent_own_RdI (by omega)) 0 rfl
/-- the methods, of a disk with its keep -/
theorem dT_same {w : World} {p : Nat} {kp : Value} {D D' : DS} {F : Th} (hl : D.keep.length ≤ 1000) (hk : D'.keep = D.keep) (h : Sat w [diskT p kp D', starL [ownT kp D.keep.length 1 (intsV D.keep), F]]) : Sat w [dT p D', F] :=
  dT_shut kp (by rw [hk]; exact hl) (by have := h.join rfl; rw [hk]; exact this)
theorem down_sp' {w : World} {p : Nat} {kp : Value} {D : DS} {F : Th} (hS : Sat w [diskT p kp D, F]) : Calls Tryz.prog 16 #[ptrV p 0] w (Ret fun v w' => v = .bool D.down ∧ Sat w' [diskT p kp D, F]) := (down_sp hS).mono fun _ _ h => h.mono fun v w' ⟨h1, h2⟩ => ⟨h1, h2 ▸ hS⟩
theorem size_sp' {w : World} {p : Nat} {kp : Value} {D : DS} {F : Th} (hS : Sat w [diskT p kp D, F]) (f : Int) : Calls Tryz.prog 32 #[ptrV p 0, intV f] w (Ret fun v w' => v = intV (D.F f).1.length ∧ Sat w' [diskT p kp D, F]) := (size_sp hS f).mono fun _ _ h => h.mono fun v w' ⟨h1, h2⟩ => ⟨h1, h2 ▸ hS⟩
theorem read_sp' {w : World} {p : Nat} {kp : Value} {D : DS} {F : Th} (hS : Sat w [diskT p kp D, F]) (f a n : Int) : Calls Tryz.prog 31 #[ptrV p 0, intV f, intV a, intV n] w (Ret fun v w' => v = .tuple #[strV (ReadS D f a n), intV (ReadE D f a n)] ∧ Sat w' [diskT p kp D, F]) := (read_sp hS f a n).mono fun _ _ h => h.mono fun v w' ⟨h1, h2⟩ => ⟨h1, h2 ▸ hS⟩
theorem dreadT {w : World} {p : Nat} {D : DS} {F : Th} (hS : Sat w [dT p D, F]) (f a n : Int) : Calls Tryz.prog 31 #[ptrV p 0, intV f, intV a, intV n] w (Ret fun v w' => v = .tuple #[strV (ReadS D f a n), intV (ReadE D f a n)] ∧ Sat w' [dT p D, F]) := by
  obtain ⟨kp, hl, hS⟩ := dT_open hS
  have hC := hS.split [0] [true, false, false] rfl; dsimp only [selF, pickA, nthA, List.cons_append, List.nil_append] at hC
  exact (read_sp' hC f a n).mono fun e w' h => h.mono fun v w' ⟨h1, h2⟩ => ⟨h1, dT_same hl (rfl) h2⟩
theorem sizeT {w : World} {p : Nat} {D : DS} {F : Th} (hS : Sat w [dT p D, F]) (f : Int) : Calls Tryz.prog 32 #[ptrV p 0, intV f] w (Ret fun v w' => v = intV (D.F f).1.length ∧ Sat w' [dT p D, F]) := by
  obtain ⟨kp, hl, hS⟩ := dT_open hS
  have hC := hS.split [0] [true, false, false] rfl; dsimp only [selF, pickA, nthA, List.cons_append, List.nil_append] at hC
  exact (size_sp' hC f).mono fun e w' h => h.mono fun v w' ⟨h1, h2⟩ => ⟨h1, dT_same hl (rfl) h2⟩
theorem downT {w : World} {p : Nat} {D : DS} {F : Th} (hS : Sat w [dT p D, F])  : Calls Tryz.prog 16 #[ptrV p 0] w (Ret fun v w' => v = .bool D.down ∧ Sat w' [dT p D, F]) := by
  obtain ⟨kp, hl, hS⟩ := dT_open hS
  have hC := hS.split [0] [true, false, false] rfl; dsimp only [selF, pickA, nthA, List.cons_append, List.nil_append] at hC
  exact (down_sp' hC).mono fun e w' h => h.mono fun v w' ⟨h1, h2⟩ => ⟨h1, dT_same hl (rfl) h2⟩
theorem syncT {w : World} {p : Nat} {D : DS} {F : Th} (hS : Sat w [dT p D, F]) (f : Int) : Calls Tryz.prog 22 #[ptrV p 0, intV f] w (Ret fun v w' => v = intV (SyncE D f) ∧ Sat w' [dT p (SyncD D f), F]) := by
  obtain ⟨kp, hl, hS⟩ := dT_open hS
  have hC := hS.split [0] [true, false, false] rfl; dsimp only [selF, pickA, nthA, List.cons_append, List.nil_append] at hC
  exact (Sync_sp hC (keep_ent hl) f).mono fun e w' h => h.mono fun v w' ⟨h1, h2⟩ => ⟨h1, dT_same hl (SyncD_keep _ _) h2⟩
theorem truncT {w : World} {p : Nat} {D : DS} {F : Th} (hS : Sat w [dT p D, F]) (f s : Int) : Calls Tryz.prog 42 #[ptrV p 0, intV f, intV s] w (Ret fun v w' => v = intV (TruncE D f s) ∧ Sat w' [dT p (TruncD D f s), F]) := by
  obtain ⟨kp, hl, hS⟩ := dT_open hS
  have hC := hS.split [0] [true, false, false] rfl; dsimp only [selF, pickA, nthA, List.cons_append, List.nil_append] at hC
  exact (Trunc_sp hC (keep_ent hl) f s).mono fun e w' h => h.mono fun v w' ⟨h1, h2⟩ => ⟨h1, dT_same hl (TruncD_keep _ _ _) h2⟩
theorem writeT {w : World} {p : Nat} {D : DS} {F : Th} (hS : Sat w [dT p D, F]) (f a : Int) (s : Bytes) : Calls Tryz.prog 20 #[ptrV p 0, intV f, intV a, strV s] w (Ret fun v w' => v = intV (WriteE D f a s) ∧ Sat w' [dT p (WriteD D f a s), F]) := by
  obtain ⟨kp, hl, hS⟩ := dT_open hS
  have hC := hS.split [0] [true, false, false] rfl; dsimp only [selF, pickA, nthA, List.cons_append, List.nil_append] at hC
  exact (Write_sp hC (keep_ent hl) f a s).mono fun e w' h => h.mono fun v w' ⟨h1, h2⟩ => ⟨h1, dT_same hl (WriteD_keep _ _ _ _) h2⟩
theorem loseT {w : World} {p : Nat} {D : DS} {F : Th} (hS : Sat w [dT p D, F]) (n : Int) (hn : n ≤ 9223372036854775807) : Calls Tryz.prog 26 #[ptrV p 0, intV n] w (Ret fun v w' => v = .tuple #[] ∧ Sat w' [dT p { D with lost := max n 0 }, F]) := by
  obtain ⟨kp, hl, hS⟩ := dT_open hS
  have hC := hS.split [0] [true, false, false] rfl; dsimp only [selF, pickA, nthA, List.cons_append, List.nil_append] at hC
  exact (lose_sp hC n hn).mono fun e w' h => h.mono fun v w' ⟨h1, h2⟩ => ⟨h1, dT_same hl (rfl) h2⟩
theorem startT {w : World} {p : Nat} {D : DS} {F : Th} (hS : Sat w [dT p D, F])  : Calls Tryz.prog 17 #[ptrV p 0] w (Ret fun v w' => v = .tuple #[] ∧ Sat w' [dT p (startD D), F]) := by
  obtain ⟨kp, hl, hS⟩ := dT_open hS
  have hC := hS.split [0] [true, false, false] rfl; dsimp only [selF, pickA, nthA, List.cons_append, List.nil_append] at hC
  exact (start_sp hC).mono fun e w' h => h.mono fun v w' ⟨h1, h2⟩ => ⟨h1, dT_same hl (rfl) h2⟩
def armD (D : DS) (n : Int) (ks : List Int) : DS := { D with armed := max n 0, keep := ks }
theorem armT {w : World} {p : Nat} {D : DS} {F : Th} (hS : Sat w [dT p D, F]) (n : Int) (hn : n ≤ 9223372036854775807) {kv : Value} {ks : List Int} (hK : Ent F (RdI kv ks)) (hl : ks.length ≤ 1000) : Calls Tryz.prog 14 #[ptrV p 0, intV n, kv] w (Ret fun v w' => v = .tuple #[] ∧ Sat w' [dT p (armD D n ks), F]) := by
  obtain ⟨kp, _, hS⟩ := dT_open hS
  have hC := hS.split [0] [true, false, false] rfl; dsimp only [selF, pickA, nthA, List.cons_append, List.nil_append] at hC
  refine (arm_sp hC n hn (hK.starL 1 rfl) (by omega)).mono fun e w' h => h.mono fun v w' ⟨kv', h1, h2⟩ => ⟨h1, ?_⟩
  have h4 := h2.join rfl
  dsimp only [List.dropLast, List.cons_append, List.nil_append] at h4
  exact dT_shut kv' (by show ks.length ≤ 1000; omega) (h4.drop 2 rfl)
theorem dT_inv {w : World} {As : List Th} {p : Nat} {D : DS} (hS : Sat w As) (i : Nat) (hi : As[i]? = some (dT p D)) : DInv D := by
  obtain ⟨kp, _, h⟩ := dT_open (hS.pull i hi)
  exact diskT_inv h 0 rfl
/-! what the model of a disk does: plain facts -/
theorem endsD_F (D : DS) : (endsD D).F = D.F := by unfold endsD; split <;> rfl
theorem endsD_Q (D : DS) : (endsD D).Q = D.Q := by unfold endsD; split <;> rfl
theorem endsD_down (D : DS) : (endsD D).down = D.down := by unfold endsD; split <;> rfl
theorem crash_down {D : DS} {k : List Int} (h : D.down = true) : crashD D k = D := by rw [crashD, if_pos h]
theorem crash_isDown (D : DS) (k : List Int) : (crashD D k).down = true := by
  unfold crashD; split
  · assumption
  · rfl
/-- file f is durable as s, and nothing of it is pending -/
def Held (f : Int) (s : Bytes) (D : DS) : Prop := D.F f = (s, s) ∧ ∀ p ∈ D.Q, p.1 ≠ f
theorem setF_ne {F : Int → Bytes × Bytes} {f k : Int} {x : Bytes × Bytes} (h : k ≠ f) : setF F f x k = F k := by simp [setF, h]
theorem survive_ne {F : Int → Bytes × Bytes} {p : Int × Int} {k : Int} (h : p.1 ≠ k) : survive F p k = F k := by
  unfold survive; split
  · rfl
  · exact setF_ne (Ne.symm h)
theorem survives_ne {keep : List Int} {k : Int} : ∀ (Q : List (Int × Int)) (i : Nat) (F : Int → Bytes × Bytes), (∀ p ∈ Q, p.1 ≠ k) → survives keep i Q F k = F k
  | [], _, _, _ => rfl
  | p :: Q, i, F, h => by
    simp only [survives]
    rw [survives_ne Q (i + 1) _ (fun q hq => h q (by simp [hq]))]
    split
    · exact survive_ne (h p (by simp))
    · rfl
theorem Held.crash {f : Int} {s : Bytes} {D : DS} (h : Held f s D) (k : List Int) : Held f s (crashD D k) := by
  unfold crashD; split
  · exact h
  · refine ⟨?_, by simp⟩
    simp only [survives_ne D.Q 0 D.F h.2, h.1]
theorem Held.ends {f : Int} {s : Bytes} {D : DS} (h : Held f s D) : Held f s (endsD D) := ⟨by rw [endsD_F]; exact h.1, by rw [endsD_Q]; exact h.2⟩
theorem Held.late {f : Int} {s : Bytes} {D : DS} (h : Held f s D) : Held f s (lateD D) := by
  unfold lateD; split
  · exact h.ends.crash _
  · exact h.ends
theorem Held.settle {f g : Int} {s t : Bytes} {D : DS} (h : Held f s D) (hne : g ≠ f) : Held f s (settleD D g t) :=
  ⟨by show setF D.F g (t, t) f = _; rw [setF_ne (Ne.symm hne)]; exact h.1, fun p hp => h.2 p (List.mem_filter.1 hp).1⟩
theorem pend_mem {g : Int} : ∀ (k : Nat) (n : Int) (Q : List (Int × Int)) (p : Int × Int), p ∈ pend g k n Q → p ∈ Q ∨ p.1 = g
  | 0, _, _, _, h => .inl h
  | k + 1, n, Q, p, h => by
    rcases pend_mem k (n + 1) _ p h with h1 | h1
    · split at h1
      · exact .inl h1
      · rcases List.mem_append.1 h1 with h2 | h2
        · exact .inl h2
        · simp at h2; exact .inr (by rw [h2])
    · exact .inr h1
theorem Held.write {f g a : Int} {s t : Bytes} {D : DS} (h : Held f s D) (hne : g ≠ f) : Held f s (writeD D g a t) := by
  unfold writeD; split
  · unfold addD; split
    · exact h
    · exact ⟨by show setF _ _ _ f = _; rw [setF_ne (Ne.symm hne)]; exact h.1, fun p hp => by rcases pend_mem _ _ _ p hp with q | q; exact h.2 p q; rw [q]; exact hne⟩
  · exact h
theorem may_start {D : DS} {f : Int} (h : 0 ≤ f ∧ f < 16) : mayE (startD D) f = 0 := by
  have h1 : (startD D).down = false := rfl
  simp [mayE, h1]; omega
end Go.Proofs.YtfmkodmmbgibgaaGreatDoor
/- Rules for shifts and for | of numbers whose bits lie apart. Conditions: each rule's own hypotheses. -/
namespace Go.Proofs.YtfmkodmmbgibgaaGreatDoor.M
open Go.RowKit
section
variable {P : Program} {n : Nat} {ops : Array Oper} {Q : Exit → Act → World → Prop} {rest : List Oper} {L : Env} {w : World} {d : Nat} {ty : TypeId} {pos : String} {aft : Array Edge} {t t2 : TypeId} {x y : Operand} {a b : Int} {yk : IntKind}
theorem ev_shl (m : Nat) (hx : look L x = some (.int .i64 a)) (hy : look L y = some (.int yk b)) (hb : b = (m : Int)) (hm : Nat.ble m 64 = true) {q : Int} (hq : ((2 ^ m : Nat) : Int) = q) (h1 : -9223372036854775808 ≤ a * q) (h2 : a * q ≤ 9223372036854775807) : Ev P L w ⟨some d, .binOp .shl t x y t2, ty, pos, aft, none⟩ (.int .i64 (a * q)) := fun ρ hρ => by
  have hm' : m ≤ 64 := Nat.le_of_ble_eq_true hm
  subst hb
  have e : IntKind.i64.wrap (a * 2 ^ (min m 64)) = a * q := by
    have : (2 : Int) ^ (min m 64) = q := by rw [← hq, Nat.min_eq_left hm']; simp
    rw [this]; exact wrap64 h1 h2
  have h0 : ¬ ((m : Int) < 0) := by omega
  simp only [execOp, hρ _ _ hx, hρ _ _ hy, binOp, Op.shift, IntKind.bits, eqGuard, h0, if_false, Int.toNat_natCast, e]
  simp
theorem wl_shl (m : Nat) (hx : look L x = some (.int .i64 a)) (hy : look L y = some (.int yk b)) (hb : b = (m : Int)) (hm : Nat.ble m 64 = true) {q : Int} (hq : ((2 ^ m : Nat) : Int) = q) (h1 : -9223372036854775808 ≤ a * q) (h2 : a * q ≤ 9223372036854775807) (hd : Nat.blt d n = true) (hk : wl P n ops Q rest ((d, .int .i64 (a * q)) :: L) w) : wl P n ops Q (⟨some d, .binOp .shl t x y t2, ty, pos, aft, none⟩ :: rest) L w :=
  wl_val hd (ev_shl m hx hy hb hm hq h1 h2) hk
theorem ev_shr {k : IntKind} (m : Nat) (hx : look L x = some (.int k a)) (hy : look L y = some (.int yk b)) (hb : b = (m : Int)) (hm : Nat.ble m k.bits = true) {q : Int} (hq : ((2 ^ m : Nat) : Int) = q) : Ev P L w ⟨some d, .binOp .shr t x y t2, ty, pos, aft, none⟩ (.int k (a / q)) := fun ρ hρ => by
  have hm' : m ≤ k.bits := Nat.le_of_ble_eq_true hm
  subst hb
  have e : a.fdiv (2 ^ (min m k.bits)) = a / q := by
    have : (2 : Int) ^ (min m k.bits) = q := by rw [← hq, Nat.min_eq_left hm']; simp
    rw [this]; exact Int.fdiv_eq_ediv_of_nonneg _ (by rw [← hq]; exact Int.natCast_nonneg _)
  have h0 : ¬ ((m : Int) < 0) := by omega
  simp only [execOp, hρ _ _ hx, hρ _ _ hy, binOp, Op.shift, eqGuard, h0, if_false, Int.toNat_natCast, e]
  simp
theorem wl_shr {k : IntKind} (m : Nat) (hx : look L x = some (.int k a)) (hy : look L y = some (.int yk b)) (hb : b = (m : Int)) (hm : Nat.ble m k.bits = true) {q : Int} (hq : ((2 ^ m : Nat) : Int) = q) (hd : Nat.blt d n = true) (hk : wl P n ops Q rest ((d, .int k (a / q)) :: L) w) : wl P n ops Q (⟨some d, .binOp .shr t x y t2, ty, pos, aft, none⟩ :: rest) L w :=
  wl_val hd (ev_shr m hx hy hb hm hq) hk
theorem or_apart (A B m : Nat) (h : B < 2 ^ m) : A * 2 ^ m ||| B = A * 2 ^ m + B := by
  rw [Nat.mul_comm]; exact (Nat.two_pow_add_eq_or_of_lt h A).symm
/-- x | y: x a multiple of 2^m, y below -/
theorem ev_or (m : Nat) (A : Nat) (hx : look L x = some (.int .i64 a)) (hy : look L y = some (.int .i64 b)) (ha : a = (A : Int) * ((2 ^ m : Nat) : Int)) (hb : 0 ≤ b ∧ b < ((2 ^ m : Nat) : Int)) (h2 : a + b ≤ 9223372036854775807) : Ev P L w ⟨some d, .binOp .or t x y t2, ty, pos, aft, none⟩ (.int .i64 (a + b)) := fun ρ hρ => by
  obtain ⟨B, rfl⟩ := Int.eq_ofNat_of_zero_le hb.1
  subst ha
  have hB : B < 2 ^ m := by have := hb.2; omega
  have hA : ((A : Int) * ((2 ^ m : Nat) : Int)) = ((A * 2 ^ m : Nat) : Int) := by simp
  rw [hA] at h2
  have h3 : IntKind.i64.wrap (((A * 2 ^ m ||| B : Nat) : Int)) = ((A * 2 ^ m : Nat) : Int) + (B : Int) := by
    rw [or_apart A B m hB, Int.natCast_add]; exact wrap64 (by omega) h2
  have hx' := hρ _ _ hx
  rw [hA] at hx' ⊢
  have h4 : ((BitVec.ofInt 64 ((A * 2 ^ m : Nat) : Int)) ||| (BitVec.ofInt 64 (B : Int))).toNat = A * 2 ^ m ||| B := by
    rw [BitVec.toNat_or, BitVec.ofInt_natCast, BitVec.ofInt_natCast, BitVec.toNat_ofNat, BitVec.toNat_ofNat, Nat.mod_eq_of_lt (by omega), Nat.mod_eq_of_lt (by omega)]
  have h5 := h3
  rw [← h4] at h5
  simp only [execOp, hx', hρ _ _ hy, binOp, Op.intBits]
  simp only [IntKind.bits, eqGuard]
  simp only [BitVec.ofInt_natCast] at h5 ⊢
  simp [-BitVec.toNat_or] at h5 ⊢
  exact h5
theorem wl_or (m : Nat) (A : Nat) (hx : look L x = some (.int .i64 a)) (hy : look L y = some (.int .i64 b)) (ha : a = (A : Int) * ((2 ^ m : Nat) : Int)) (hb : 0 ≤ b ∧ b < ((2 ^ m : Nat) : Int)) (h2 : a + b ≤ 9223372036854775807) (hd : Nat.blt d n = true) (hk : wl P n ops Q rest ((d, .int .i64 (a + b)) :: L) w) : wl P n ops Q (⟨some d, .binOp .or t x y t2, ty, pos, aft, none⟩ :: rest) L w :=
  wl_val hd (ev_or m A hx hy ha hb h2) hk
/-- a byte as a number, a number as a byte -/
theorem ev_convU8 {sT dT : TypeId} {ds : TypeDesc} {c : UInt8} (hs : P.underlying sT = some ds) (ht : P.underlying dT = some (.int .i64)) (hx : look L x = some (.int .u8 (c.toNat : Int))) : Ev P L w ⟨some d, .convert sT dT x, ty, pos, aft, none⟩ (.int .i64 (c.toNat : Int)) :=
  ev_convII hs ht hx (by have := c.toNat_lt; exact wrap64 (by omega) (by omega))
theorem wl_convU8 {sT dT : TypeId} {ds : TypeDesc} {c : UInt8} (hs : P.underlying sT = some ds) (ht : P.underlying dT = some (.int .i64)) (hx : look L x = some (.int .u8 (c.toNat : Int))) (hd : Nat.blt d n = true) (hk : wl P n ops Q rest ((d, .int .i64 (c.toNat : Int)) :: L) w) : wl P n ops Q (⟨some d, .convert sT dT x, ty, pos, aft, none⟩ :: rest) L w := wl_val hd (ev_convU8 hs ht hx) hk
theorem wrap_u8 (m : Nat) : IntKind.u8.wrap (m : Int) = ((UInt8.ofNat m).toNat : Int) := by
  simp [IntKind.wrap, IntKind.signed, IntKind.bits]
theorem ev_convToU8 {sT dT : TypeId} {ds : TypeDesc} {k : IntKind} {a : Int} (m : Nat) (hs : P.underlying sT = some ds) (ht : P.underlying dT = some (.int .u8)) (hx : look L x = some (.int k a)) (ha : a = (m : Int)) : Ev P L w ⟨some d, .convert sT dT x, ty, pos, aft, none⟩ (.int .u8 ((UInt8.ofNat m).toNat : Int)) :=
  ev_convII hs ht hx (by rw [ha]; exact wrap_u8 m)
theorem wl_convToU8 {sT dT : TypeId} {ds : TypeDesc} {k : IntKind} {a : Int} (m : Nat) (hs : P.underlying sT = some ds) (ht : P.underlying dT = some (.int .u8)) (hx : look L x = some (.int k a)) (ha : a = (m : Int)) (hd : Nat.blt d n = true) (hk : wl P n ops Q rest ((d, .int .u8 ((UInt8.ofNat m).toNat : Int)) :: L) w) : wl P n ops Q (⟨some d, .convert sT dT x, ty, pos, aft, none⟩ :: rest) L w := wl_val hd (ev_convToU8 m hs ht hx ha) hk
end
end Go.Proofs.YtfmkodmmbgibgaaGreatDoor.M
/- Closed facts of the program: offsets, sizes, zero values. -/
namespace Go.Proofs.YtfmkodmmbgibgaaGreatDoor
open Go.RowKit M
theorem ag_89 : aggB Tryz.prog 89 = some false := by kernel_rfl
theorem ag_90 : aggB Tryz.prog 90 = some false := by kernel_rfl
theorem ag_97 : aggB Tryz.prog 97 = some true := by kernel_rfl
theorem ag_132 : aggB Tryz.prog 132 = some true := by kernel_rfl
theorem asz_92 : allSz Tryz.prog 92 = true := by kernel_rfl
theorem asz_97 : allSz Tryz.prog 97 = true := by kernel_rfl
theorem asz_132 : allSz Tryz.prog 132 = true := by kernel_rfl
theorem cal_56 : callB Tryz.prog 56 = true := by kernel_rfl
theorem cal_57 : callB Tryz.prog 57 = true := by kernel_rfl
theorem cal_58 : callB Tryz.prog 58 = true := by kernel_rfl
theorem cal_59 : callB Tryz.prog 59 = true := by kernel_rfl
theorem cal_62 : callB Tryz.prog 62 = true := by kernel_rfl
theorem cal_63 : callB Tryz.prog 63 = true := by kernel_rfl
theorem cal_92 : callB Tryz.prog 92 = true := by kernel_rfl
theorem cal_93 : callB Tryz.prog 93 = true := by kernel_rfl
theorem cal_94 : callB Tryz.prog 94 = true := by kernel_rfl
theorem cal_95 : callB Tryz.prog 95 = true := by kernel_rfl
theorem cal_118 : callB Tryz.prog 118 = true := by kernel_rfl
theorem es_89 : elemSz Tryz.prog 89 = some 3 := by kernel_rfl
theorem es_90 : elemSz Tryz.prog 90 = some 2 := by kernel_rfl
theorem es_118 : elemSz Tryz.prog 118 = some 1 := by kernel_rfl
theorem fo_92_0 : fldOff Tryz.prog 92 0 = some 0 := by kernel_rfl
theorem fo_92_1 : fldOff Tryz.prog 92 1 = some 1 := by kernel_rfl
theorem fo_92_2 : fldOff Tryz.prog 92 2 = some 2 := by kernel_rfl
theorem fo_92_3 : fldOff Tryz.prog 92 3 = some 3 := by kernel_rfl
theorem fo_92_4 : fldOff Tryz.prog 92 4 = some 4 := by kernel_rfl
theorem fo_92_5 : fldOff Tryz.prog 92 5 = some 5 := by kernel_rfl
theorem fo_97_0 : fldOff Tryz.prog 97 0 = some 0 := by kernel_rfl
theorem fo_97_1 : fldOff Tryz.prog 97 1 = some 1 := by kernel_rfl
theorem fo_97_2 : fldOff Tryz.prog 97 2 = some 2 := by kernel_rfl
theorem fo_132_0 : fldOff Tryz.prog 132 0 = some 0 := by kernel_rfl
theorem fo_132_1 : fldOff Tryz.prog 132 1 = some 1 := by kernel_rfl
theorem fv_97_1 : fldVal Tryz.prog 97 1 = some (1, none) := by kernel_rfl
theorem ifo_97 : (Tryz.prog.info? 97).map (fun i => (i.zero, i.size, i.bytes)) = some (some (.agg #[(.int .i64 0), (.string ⟨#[]⟩), (.string ⟨#[]⟩)]), 3, 40) := by kernel_rfl
theorem ifo_132 : (Tryz.prog.info? 132).map (fun i => (i.zero, i.size, i.bytes)) = some (some (.agg #[(.int .i64 0), (.int .i64 0)]), 2, 16) := by kernel_rfl
theorem ifz_5 : (Tryz.prog.info? 5).map (fun i => (i.zero, i.size)) = some (some (.int .u8 0), 1) := by kernel_rfl
theorem ifz_97 : (Tryz.prog.info? 97).map (fun i => (i.zero, i.size)) = some (some (.agg #[(.int .i64 0), (.string ⟨#[]⟩), (.string ⟨#[]⟩)]), 3) := by kernel_rfl
theorem ifz_132 : (Tryz.prog.info? 132).map (fun i => (i.zero, i.size)) = some (some (.agg #[(.int .i64 0), (.int .i64 0)]), 2) := by kernel_rfl
theorem pl_92_ : structPl Tryz.prog 92 [] = some [] := by kernel_rfl
theorem pl_97_0 : structPl Tryz.prog 97 [0] = some [(0, 1)] := by kernel_rfl
theorem pl_97_0_1_2 : structPl Tryz.prog 97 [0, 1, 2] = some [(0, 1), (1, 1), (2, 1)] := by kernel_rfl
theorem pl_132_0_1 : structPl Tryz.prog 132 [0, 1] = some [(0, 1), (1, 1)] := by kernel_rfl
theorem sz_89 : szOf Tryz.prog 89 = some 1 := by kernel_rfl
theorem sz_90 : szOf Tryz.prog 90 = some 1 := by kernel_rfl
theorem sz_97 : szOf Tryz.prog 97 = some 3 := by kernel_rfl
theorem sz_132 : szOf Tryz.prog 132 = some 2 := by kernel_rfl
theorem zr_92 : zeroOf Tryz.prog 92 = some (some (.agg #[(.slice none 0 0), (.slice none 0 0), (.int .i64 0), (.bool false), (.int .i64 0), (.slice none 0 0)])) := by kernel_rfl
theorem zr_97 : zeroOf Tryz.prog 97 = some (some (.agg #[(.int .i64 0), (.string ⟨#[]⟩), (.string ⟨#[]⟩)])) := by kernel_rfl
theorem zr_132 : zeroOf Tryz.prog 132 = some (some (.agg #[(.int .i64 0), (.int .i64 0)])) := by kernel_rfl
end Go.Proofs.YtfmkodmmbgibgaaGreatDoor
