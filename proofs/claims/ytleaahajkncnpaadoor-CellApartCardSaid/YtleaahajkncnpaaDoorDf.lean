/- disk: Write, Sync, Truncate -/
import Derived.Test.YtleaahajkncnpaaDoorDe
namespace Go.Proofs.YtleaahajkncnpaaDoor
open Go.RowKit M
set_option linter.unusedVariables false
theorem diskT_keep {w : World} {As : List Th} {p : Nat} {kp : Value} {D : DS} (hS : Sat w As) (i : Nat) (hi : As[i]? = some (diskT p kp D)) : w.cell? ⟨p, 0 + 6, none⟩ = some kp := by
  obtain ⟨L, _, h⟩ := diskT_open (hS.pull i hi)
  exact h.cell 0 rfl rfl
theorem diskT_inv {w : World} {As : List Th} {p : Nat} {kp : Value} {D : DS} (hS : Sat w As) (i : Nat) (hi : As[i]? = some (diskT p kp D)) : DInv D := by
  obtain ⟨L, h, _⟩ := diskT_open (hS.pull i hi)
  exact h
theorem endsD_keep (D : DS) : (endsD D).keep = D.keep := by unfold endsD; split <;> rfl
theorem writeD_keep (D : DS) (f a : Int) (s : Bytes) : (writeD D f a s).keep = D.keep := by unfold writeD addD; split <;> (try split) <;> rfl
theorem Write_sp {w : World} {p : Nat} {kp : Value} {D : DS} {F : Th} (hS : Sat w [diskT p kp D, F]) (hK : Ent F (RdI kp D.keep)) (f at_ : Int) (s : Bytes) :
    Calls Tryd.prog 11 #[ptrV p 0, intV f, intV at_, strV s] w (Ret fun v w' => v = intV (WriteE D f at_ s) ∧ Sat w' [diskT p kp (WriteD D f at_ s), F]) := by
  refine calls_enter Tryd.func11 rfl Tryd.ntmps11 rfl ?_
  refine wc_seq ?_
  refine wc_region ?_
  refine wl_assign rfl rfl ?_
  refine wl_nil ?_
  refine qs_seq ?_
  refine wc_seq ?_
  refine wc_region ?_
  refine wl_move rfl rfl ?_
  have hC1 := hS.split [0] [true, false] rfl; dsimp only [selF, pickA, nthA, List.cons_append, List.nil_append] at hC1
  refine wl_call cal_34 rfl (ends_sp hC1) rfl ?_
  rintro e w1 ⟨_, rfl, rfl, hS1⟩; refine ⟨_, rfl, ?_⟩
  replace hS1 := hS1.join rfl; dsimp only [List.dropLast, List.cons_append, List.nil_append] at hS1; clear hC1
  refine wl_assign rfl rfl ?_
  refine wl_nil ?_
  refine qs_seq ?_
  refine wc_seq ?_
  refine wc_region ?_
  refine wl_move rfl rfl ?_
  refine wl_move rfl rfl ?_
  refine wl_move rfl rfl ?_
  refine wl_move rfl rfl ?_
  have hC2 := hS1.split [0] [true, false] rfl; dsimp only [selF, pickA, nthA, List.cons_append, List.nil_append] at hC2
  refine wl_call cal_35 rfl (write_sp hC2 f at_ s) rfl ?_
  rintro e w2 ⟨_, rfl, rfl, hS2⟩; refine ⟨_, rfl, ?_⟩
  replace hS2 := hS2.join rfl; dsimp only [List.dropLast, List.cons_append, List.nil_append] at hS2; clear hC2
  clear hS1
  refine wl_assign rfl rfl ?_
  refine wl_nil ?_
  refine qs_seq ?_
  refine wc_sub (L' := [(10, _), (9, _), (8, _), (0, _)]) (.cons rfl (.cons rfl (.cons rfl (.cons rfl .nil)))) ?_
  refine wc_seq ?_
  refine wc_seq ?_
  refine wc_region ?_
  refine wl_move rfl rfl ?_
  refine wl_nil ?_
  refine qs_seq ?_
  refine wc_cond rfl (fun h3 => ?_) (fun h3 => ?_)
  · skip
    have hb : endsB D = true := h3
    refine wc_seq ?_
    refine wc_region ?_
    refine wl_move rfl rfl ?_
    refine wl_move rfl rfl ?_
    refine wl_nilCheck rfl rfl ?_
    refine wl_fieldAddr rfl fo_61_6 rfl ?_
    refine wl_load rfl ag_39 (by first | assumption | exact diskT_keep hS2 0 rfl) rfl ?_
    have hC4 := hS2.split [0] [true, false] rfl; dsimp only [selF, pickA, nthA, List.cons_append, List.nil_append] at hC4
    refine wl_call cal_22 rfl (crash_sp hC4 (hK.starL 0 rfl)) rfl ?_
    rintro e w4 ⟨_, rfl, rfl, hS4⟩; refine ⟨_, rfl, ?_⟩
    replace hS4 := hS4.join rfl; dsimp only [List.dropLast, List.cons_append, List.nil_append] at hS4; clear hC4
    clear hS2
    refine wl_nil ?_
    refine qs_seq ?_
    refine wc_sub (L' := [(10, _), (8, _)]) (.cons rfl (.cons rfl .nil)) ?_
    refine wc_seq ?_
    refine wc_region ?_
    refine wl_assign rfl rfl ?_
    refine wl_nil ?_
    refine qs_seq ?_
    refine wc_ret ?_
    refine qs_then_ret ?_
    refine fin1 (.inr rfl) rfl rfl ?_
    exact ⟨_, rfl, by simp [WriteE, hb], by simp only [WriteD, hb]; exact hS4⟩
  · skip
    have hb : endsB D = false := h3
    refine wc_skip ?_
    refine qs_seq ?_
    refine wc_seq ?_
    refine wc_region ?_
    refine wl_move rfl rfl ?_
    refine wl_assign rfl rfl ?_
    refine wl_nil ?_
    refine qs_seq ?_
    refine wc_ret ?_
    refine fin1 (.inr rfl) rfl rfl ?_
    exact ⟨_, rfl, by simp [WriteE, hb], by simp only [WriteD, hb]; exact hS2⟩

theorem lateD_yes {D : DS} (h : endsB D = true) : lateD D = crashD (endsD D) D.keep := by simp [lateD, h]
theorem lateD_no {D : DS} (h : endsB D = false) : lateD D = endsD D := by simp [lateD, h]
theorem Sync_sp {w : World} {p : Nat} {kp : Value} {D : DS} {F : Th} (hS : Sat w [diskT p kp D, F]) (hK : Ent F (RdI kp D.keep)) (f : Int) :
    Calls Tryd.prog 41 #[ptrV p 0, intV f] w (Ret fun v w' => v = intV (SyncE D f) ∧ Sat w' [diskT p kp (SyncD D f), F]) := by
  refine calls_enter Tryd.func41 rfl Tryd.ntmps41 rfl ?_
  refine wc_seq ?_
  refine wc_region ?_
  refine wl_assign rfl rfl ?_
  refine wl_nil ?_
  refine qs_seq ?_
  refine wc_mid (fun E0 W0 => E0 = [(0, ptrV p 0), (1, intV f), (4, intV 0)] ∧ Sat W0 [diskT p kp (lateD D), F]) ?_ ?_
  · skip
    refine wc_seq ?_
    refine wc_region ?_
    refine wl_move rfl rfl ?_
    have hC2 := hS.split [0] [true, false] rfl; dsimp only [selF, pickA, nthA, List.cons_append, List.nil_append] at hC2
    refine wl_call cal_34 rfl (ends_sp hC2) rfl ?_
    rintro e w2 ⟨_, rfl, rfl, hS2⟩; refine ⟨_, rfl, ?_⟩
    replace hS2 := hS2.join rfl; dsimp only [List.dropLast, List.cons_append, List.nil_append] at hS2; clear hC2
    refine wl_nil ?_
    refine qs_seq ?_
    refine wc_cond rfl (fun h3 => ?_) (fun h3 => ?_)
    · skip
      have hb : endsB D = true := h3
      refine wc_region ?_
      refine wl_move rfl rfl ?_
      refine wl_move rfl rfl ?_
      refine wl_nilCheck rfl rfl ?_
      refine wl_fieldAddr rfl fo_61_6 rfl ?_
      refine wl_load rfl ag_39 (by first | assumption | exact diskT_keep hS2 0 rfl) rfl ?_
      have hC4 := hS2.split [0] [true, false] rfl; dsimp only [selF, pickA, nthA, List.cons_append, List.nil_append] at hC4
      refine wl_call cal_22 rfl (crash_sp hC4 (hK.starL 0 rfl)) rfl ?_
      rintro e w4 ⟨_, rfl, rfl, hS4⟩; refine ⟨_, rfl, ?_⟩
      replace hS4 := hS4.join rfl; dsimp only [List.dropLast, List.cons_append, List.nil_append] at hS4; clear hC4
      clear hS2
      refine wl_nil ?_
      exact qs_mid (.cons rfl (.cons rfl (.cons rfl .nil))) ⟨rfl, by rw [lateD_yes hb]; exact hS4⟩
    · skip
      have hb : endsB D = false := h3
      refine wc_skip ?_
      exact qs_mid (.cons rfl (.cons rfl (.cons rfl .nil))) ⟨rfl, by rw [lateD_no hb]; exact hS2⟩
  rintro _ w1 ⟨rfl, hS1⟩
  refine wc_seq ?_
  refine wc_seq ?_
  refine wc_region ?_
  refine wl_move rfl rfl ?_
  refine wl_move rfl rfl ?_
  refine wl_call cal_47 rfl (may_sp (hS1) f) rfl ?_
  rintro e _ ⟨_, rfl, rfl, rfl⟩; refine ⟨_, rfl, ?_⟩
  refine wl_assign rfl rfl ?_
  refine wl_nil ?_
  refine qs_seq ?_
  refine wc_seq ?_
  refine wc_region ?_
  refine wl_move rfl rfl ?_
  refine wl_neq rfl rfl rfl ?_
  refine wl_nil ?_
  refine qs_seq ?_
  refine wc_condD rfl (fun h6 => ?_) (fun h6 => ?_)
  · skip
    have hm : mayE (lateD D) f ≠ 0 := h6
    refine wc_seq ?_
    refine wc_region ?_
    refine wl_move rfl rfl ?_
    refine wl_assign rfl rfl ?_
    refine wl_nil ?_
    refine qs_seq ?_
    refine wc_ret ?_
    refine qs_then_ret ?_
    refine fin1 (.inr rfl) rfl rfl ?_
    exact ⟨_, rfl, by simp [SyncE, hm], by simp only [SyncD, if_pos hm]; exact hS1⟩
  · skip
    have hm : mayE (lateD D) f = 0 := Decidable.not_not.1 h6
    refine wc_skip ?_
    refine qs_seq ?_
    refine wc_seq ?_
    refine wc_seq ?_
    obtain ⟨⟨bf, bs, qv⟩, hI, hS1⟩ := diskT_open (hS1.pull 0 rfl); dsimp only [List.eraseIdx] at hS1
    obtain ⟨g, hg, hS1⟩ := filesT_open (hS1.pull 1 rfl); dsimp only [List.eraseIdx] at hS1
    refine wc_region ?_
    refine wl_move rfl rfl ?_
    refine wl_nilCheck rfl rfl ?_
    refine wl_fieldAddr rfl fo_61_3 rfl ?_
    refine wl_load rfl ag_3 (by first | assumption | exact hS1.cell 1 rfl rfl | exact diskT_keep hS1 0 rfl) rfl ?_
    refine wl_gtr rfl rfl rfl ?_
    refine wl_nil ?_
    refine qs_seq ?_
    refine wc_sub (L' := [(24, _), (0, _), (1, _), (4, _)]) (.cons rfl (.cons rfl (.cons rfl (.cons rfl .nil)))) ?_
    refine wc_condD rfl (fun h7 => ?_) (fun h7 => ?_)
    · skip
      have hl : 0 < (lateD D).lost := h7
      have hll := hI.lost
      refine wc_seq ?_
      refine wc_region ?_
      refine wl_move rfl rfl ?_
      refine wl_nilCheck rfl rfl ?_
      refine wl_fieldAddr rfl fo_61_3 rfl ?_
      refine wl_load rfl ag_3 (by first | assumption | exact hS1.cell 1 rfl rfl | exact diskT_keep hS1 0 rfl) rfl ?_
      refine wl_sub' rfl rfl (by omega) (by omega) rfl ?_
      refine wl_nilCheck rfl rfl ?_
      refine wl_fieldAddr rfl fo_61_3 rfl ?_
      first | (refine wl_store hS1 rfl rfl sz_3 (by first | rfl | assumption | exact hS1.own_one 2 rfl) (i := 1) rfl (by first | decide | exact Nat.le_of_ble_eq_true rfl | (simp; done) | omega) ?_)
      intro w8 hS9; dsimp only [List.set] at hS9
      clear hS1
      refine wl_nil ?_
      refine qs_seq ?_
      refine wc_sub (L' := [(0, _), (1, _), (4, _)]) (.cons rfl (.cons rfl (.cons rfl .nil))) ?_
      refine wc_seq ?_
      refine wc_region ?_
      refine wl_assign rfl rfl ?_
      refine wl_nil ?_
      refine qs_seq ?_
      refine wc_ret ?_
      refine qs_then_ret ?_
      refine fin1 (.inr rfl) rfl rfl ?_
      exact ⟨_, rfl, by rw [SyncE, if_neg (by simp [hm]), if_pos hl], by rw [SyncD, if_neg (by simp [hm]), if_pos hl]; exact Dback { hI with lost := ⟨by simp; omega, by have := hI.lost; simp; omega⟩ } hg hS9⟩
    · skip
      have hl : ¬ 0 < (lateD D).lost := h7
      refine wc_skip ?_
      refine qs_seq ?_
      refine wc_seq ?_
      refine wc_region ?_
      refine wl_move rfl rfl ?_
      refine wl_move rfl rfl ?_
      refine wl_move rfl rfl ?_
      refine wl_nilCheck rfl rfl ?_
      refine wl_fieldAddr rfl fo_61_0 rfl ?_
      refine wl_load rfl ag_57 (by first | assumption | exact hS1.cell 1 rfl rfl | exact diskT_keep hS1 0 rfl) rfl ?_
      refine wl_move rfl rfl ?_
      refine wl_lookup 0 hS1 keysInt Tryd.underlying57 rfl rfl rfl zr_80 (hg _) rfl ?_
      refine wl_field fv_80_0 rfl rfl rfl ?_
      replace hS1 := Dback hI hg hS1
      have hC10 := hS1.split [0] [true, false] rfl; dsimp only [selF, pickA, nthA, List.cons_append, List.nil_append] at hC10
      refine wl_call cal_52 rfl (settle_sp hC10 f _ (hI.now f)) rfl ?_
      rintro e w10 ⟨_, rfl, rfl, hS10⟩; refine ⟨_, rfl, ?_⟩
      replace hS10 := hS10.join rfl; dsimp only [List.dropLast, List.cons_append, List.nil_append] at hS10; clear hC10
      clear hS1
      refine wl_nil ?_
      refine qs_seq ?_
      refine wc_sub (L' := [(4, _)]) (.cons rfl .nil) ?_
      refine wc_seq ?_
      refine wc_region ?_
      refine wl_assign rfl rfl ?_
      refine wl_nil ?_
      refine qs_seq ?_
      refine wc_ret ?_
      refine fin1 (.inr rfl) rfl rfl ?_
      exact ⟨_, rfl, by rw [SyncE, if_neg (by simp [hm]), if_neg hl], by rw [SyncD, if_neg (by simp [hm]), if_neg hl]; exact hS10⟩

theorem trunc_may {w : World} {p : Nat} {kp : Value} {D : DS} {F : Th} {f size : Int} (hm : mayE (lateD D) f ≠ 0) (h : Sat w [diskT p kp (lateD D), F]) : Ret (fun v w' => v = intV (TruncE D f size) ∧ Sat w' [diskT p kp (TruncD D f size), F]) (.returned (intV (mayE (lateD D) f))) w := by
  have e : TruncE D f size = mayE (lateD D) f := by rw [TruncE, if_pos hm]
  exact ⟨_, rfl, by rw [e], by rw [TruncD, e, if_neg hm]; exact h⟩
theorem trunc_arg {w : World} {p : Nat} {kp : Value} {D : DS} {F : Th} {f size : Int} (hm : mayE (lateD D) f = 0) (hx : size < 0 ∨ (((lateD D).F f).1.length : Int) < size) (h : Sat w [diskT p kp (lateD D), F]) : Ret (fun v w' => v = intV (TruncE D f size) ∧ Sat w' [diskT p kp (TruncD D f size), F]) (.returned (intV 1)) w := by
  have e : TruncE D f size = 1 := by rw [TruncE, if_neg (by simp [hm]), if_pos hx]
  exact ⟨_, rfl, by rw [e], by rw [TruncD, e, if_neg (by decide)]; exact h⟩
theorem trunc_ok {w : World} {p : Nat} {kp : Value} {D : DS} {F : Th} {f : Int} {n : Nat} (hm : mayE (lateD D) f = 0) (hx : ¬ ((n : Int) < 0 ∨ (((lateD D).F f).1.length : Int) < n)) (h : Sat w [diskT p kp (settleD (lateD D) f ((((lateD D).F f).1.take n).drop 0)), F]) : Ret (fun v w' => v = intV (TruncE D f n) ∧ Sat w' [diskT p kp (TruncD D f n), F]) (.returned (intV 0)) w := by
  have e : TruncE D f n = 0 := by rw [TruncE, if_neg (by simp [hm]), if_neg hx]
  rw [List.drop_zero] at h
  exact ⟨_, rfl, by rw [e], by rw [TruncD, if_pos e]; simpa using h⟩
end Go.Proofs.YtleaahajkncnpaaDoor
