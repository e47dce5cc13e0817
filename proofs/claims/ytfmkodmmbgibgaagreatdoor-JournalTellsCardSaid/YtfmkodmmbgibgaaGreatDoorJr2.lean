/- reference 05: Open, Commit -/
import Derived.Test.YtfmkodmmbgibgaaGreatDoorJr1
import Derived.ChangeKeysEq
import Derived.Laws.StructEq
namespace Go.Proofs.YtfmkodmmbgibgaaGreatDoor
open Go.RowKit M
set_option linter.unusedVariables false
section
variable {D : DS} {f : Int} {C : CS} {l : List Blk}
theorem put_a (h1 : TruncE D (f + 1) 0 ≠ 0) : putR0 D C f l = ⟨TruncE D (f + 1) 0, TruncD D (f + 1) 0, C⟩ := by unfold putR0; rw [if_pos h1]
theorem put_b (h1 : TruncE D (f + 1) 0 = 0) {D1 : DS} (e1 : D1 = TruncD D (f + 1) 0) (h2 : WriteE D1 (f + 1) 0 (encJ l) ≠ 0) : putR0 D C f l = ⟨WriteE D1 (f + 1) 0 (encJ l), WriteD D1 (f + 1) 0 (encJ l), C⟩ := by subst e1; unfold putR0; rw [if_neg (fun q => q h1), if_pos h2]
theorem put_c (h1 : TruncE D (f + 1) 0 = 0) {D1 D2 : DS} (e1 : D1 = TruncD D (f + 1) 0) (h2 : WriteE D1 (f + 1) 0 (encJ l) = 0) (e2 : D2 = WriteD D1 (f + 1) 0 (encJ l)) (h3 : SyncE D2 (f + 1) ≠ 0) : putR0 D C f l = ⟨SyncE D2 (f + 1), SyncD D2 (f + 1), C⟩ := by subst e1 e2; unfold putR0; rw [if_neg (fun q => q h1), if_neg (fun q => q h2), if_pos h3]
theorem put_d (h1 : TruncE D (f + 1) 0 = 0) {D1 D2 D3 : DS} (e1 : D1 = TruncD D (f + 1) 0) (h2 : WriteE D1 (f + 1) 0 (encJ l) = 0) (e2 : D2 = WriteD D1 (f + 1) 0 (encJ l)) (h3 : SyncE D2 (f + 1) = 0) (e3 : D3 = SyncD D2 (f + 1)) : putR0 D C f l = midR D3 C f l := by subst e1 e2 e3; unfold putR0; rw [if_neg (fun q => q h1), if_neg (fun q => q h2), if_neg (fun q => q h3)]
theorem mid_a (h : (noteR D C ((encJ l).length : Int)).e ≠ 0) : midR D C f l = noteR D C ((encJ l).length : Int) := by unfold midR; rw [if_pos h]
theorem mid_b (h : (noteR D C ((encJ l).length : Int)).e = 0) : midR D C f l = endR (noteR D C ((encJ l).length : Int)).D (noteR D C ((encJ l).length : Int)).C f l := by unfold midR; rw [if_neg (fun q => q h)]
theorem end_a (h : (homeR D f l).1 ≠ 0) : endR D C f l = ⟨(homeR D f l).1, (homeR D f l).2, C⟩ := by unfold endR; rw [if_pos h]
theorem end_b (h : (homeR D f l).1 = 0) : endR D C f l = noteR (homeR D f l).2 C 0 := by unfold endR; rw [if_neg (fun q => q h)]
theorem openJ_e (h : ¬ (f < 0 ∨ 13 < f)) (h1 : openE D (f + 2) = 0) {R : SR} (hR : R = replR D f (openC D (f + 2))) (h2 : R.e ≠ 0) : (openJ D f).e = R.e ∧ (openJ D f).D = R.D := by subst hR; unfold openJ; rw [if_neg h, if_neg (fun q => q h1), if_pos h2]; exact ⟨rfl, rfl⟩
theorem openJ_f (h : ¬ (f < 0 ∨ 13 < f)) (h1 : openE D (f + 2) = 0) {R : SR} (hR : R = replR D f (openC D (f + 2))) (h2 : R.e = 0) (h3 : mayE R.D f ≠ 0) : (openJ D f).e = mayE R.D f ∧ (openJ D f).D = R.D := by subst hR; unfold openJ; rw [if_neg h, if_neg (fun q => q h1), if_neg (fun q => q h2), if_pos h3]; exact ⟨rfl, rfl⟩
theorem openJ_g (h : ¬ (f < 0 ∨ 13 < f)) (h1 : openE D (f + 2) = 0) {R : SR} (hR : R = replR D f (openC D (f + 2))) (h2 : R.e = 0) (h3 : mayE R.D f = 0) : openJ D f = ⟨0, R.D, ⟨f, R.C, loadB (R.D.F f).1, false⟩⟩ := by subst hR; unfold openJ; rw [if_neg h, if_neg (fun q => q h1), if_neg (fun q => q h2), if_neg (fun q => q h3)]
end
theorem listN_stop {B : Int → Bytes} {n : Nat} (hn : n ≤ 2048) (h : ∀ m : Nat, n ≤ m → m < 2048 → B m = []) : listN B n = listB B := by
  have key : ∀ k, n + k ≤ 2048 → listN B (n + k) = listN B n := fun k => by
    induction k with
    | zero => exact fun _ => rfl
    | succ k ih => exact fun hk => by rw [← Nat.add_assoc, listN_succ, if_pos (h (n + k) (by omega) (by omega)), List.append_nil, ih (by omega)]
  have := key (2048 - n) (by omega)
  rw [show n + (2048 - n) = 2048 by omega, listN_all] at this
  exact this.symm
theorem load_blk (s : Bytes) {n : Nat} (h : n < 2048) : loadB s (n : Int) = blkJ s n := by
  unfold loadB; rw [if_pos ⟨by omega, by omega⟩, Int.toNat_natCast]
set_option maxRecDepth 100000 in
set_option maxHeartbeats 20000000 in
theorem r5commit_sp {w : World} {kp rp cp : Nat} {ov : Value} {D : DS} {J : JS} {F : Th} (hS : Sat w [blkT kp (rrV rp J.base cp ov J.bad), blkT cp (cellV rp J.C), rowT jbC ov (listB J.B), rT rp D, F]) (hJ : JokJ J) {lv : Value} {l : List Blk} (hL : Ent F (RdL jbC lv l)) (hln : l.length ≤ 1000000000) :
    Calls Tryz.prog 28 #[ptrV kp 0, lv] w (Ret fun v w' => ∃ ov', v = intV (commitR D J l).e ∧ JokJ (commitR D J l).J ∧ Sat w' [blkT kp (rrV rp (commitR D J l).J.base cp ov' (commitR D J l).J.bad), blkT cp (cellV rp (commitR D J l).J.C), rowT jbC ov' (listB (commitR D J l).J.B), rT rp (commitR D J l).D, F]) := by
 obtain ⟨ao, cap, rfl, hmax⟩ := (hL.sat hS 4 rfl).shape
 have h1ov := hS.own_one 2 rfl
 refine calls_enter Tryz.func28 rfl Tryz.ntmps28 rfl ?_
 refine wc_seq (wc_region (wl_assign rfl rfl (wl_nil (qs_seq (wc_seq (wc_seq (wc_region (wl_move rfl rfl (wl_nilCheck rfl rfl ?_)))))))))
 refine wl_fieldAddr rfl fo_58_4 rfl ?_
 refine wl_load rfl ag_4 (by first | assumption | exact hS.cell 0 rfl rfl | exact hS.cell 1 rfl rfl) rfl ?_
 refine wl_nil (qs_seq ?_)
 refine wc_cond rfl (fun h1 => ?_) (fun h1 => ?_)
 ·have h0 : J.bad = true := h1
  refine wc_seq (wc_region (wl_assign rfl rfl (wl_nil (qs_seq (wc_ret (qs_then_ret ?_))))))
  refine fin1 (.inr rfl) rfl rfl ?_
  exact ⟨_, rfl, _, by rw [commitR_a h0], by rw [commitR_a h0]; exact hJ, by rw [commitR_a h0]; exact hS.pick [0, 1, 2, 3, 4] rfl⟩
 have hbad : J.bad = false := h1
 refine wc_skip (qs_seq (wc_seq (wc_seq (wc_region (wl_move rfl rfl ?_)))))
 have hC2 := hS.split [] [false, false, false, false, false] rfl; dsimp only [selF, pickA, nthA, List.cons_append, List.nil_append] at hC2
 refine wl_call cal_72 rfl (r5Right_sp hC2 (hL.starL 4 rfl) hln) rfl ?_
 rintro e w2 ⟨_, rfl, rfl, hS2⟩; refine ⟨_, rfl, ?_⟩
 replace hS2 := hS2.join rfl; dsimp only [List.dropLast, List.cons_append, List.nil_append] at hS2; clear hC2
 refine wl_not rfl rfl ?_
 refine wl_nil (qs_seq ?_)
 refine wc_cond rfl (fun h3 => ?_) (fun h3 => ?_)
 ·have hrt : rightJ l = false := by simpa using h3
  refine wc_seq (wc_region (wl_assign rfl rfl (wl_nil (qs_seq (wc_ret (qs_then_ret ?_))))))
  refine fin1 (.inr rfl) rfl rfl ?_
  exact ⟨_, rfl, _, by rw [commitR_b hbad hrt], by rw [commitR_b hbad hrt]; exact hJ, by rw [commitR_b hbad hrt]; exact hS2.pick [0, 1, 2, 3, 4] rfl⟩
 have hrt : rightJ l = true := by simpa using h3
 obtain ⟨hok, hz, hes⟩ := right_enc hrt
 have hr3 := (right_mem hrt).2
 have hrm : ∀ x ∈ l, 0 ≤ x.n ∧ x.n < 2048 := fun x hx => by have := hr3 x hx; omega
 have hb := hJ.2.1
 refine wc_skip (qs_seq (wc_seq (wc_region (wl_move rfl rfl ?_))))
 have hC4 := hS2.split [] [false, false, false, false, false] rfl; dsimp only [selF, pickA, nthA, List.cons_append, List.nil_append] at hC4
 refine wl_call cal_73 rfl (r5Bytes_sp hC4 (hL.starL 4 rfl) hln hok hz) rfl ?_
 rintro e w4 ⟨_, rfl, rfl, hS4⟩; refine ⟨_, rfl, ?_⟩
 replace hS4 := hS4.join rfl; dsimp only [List.dropLast, List.cons_append, List.nil_append] at hS4; clear hC4
 clear hS2
 refine wl_assign rfl rfl (wl_nil (qs_seq ?_))
 refine wc_sub (L' := [(5, _), (4, _), (0, _), (1, _)]) (.cons rfl (.cons rfl (.cons rfl (.cons rfl .nil)))) ?_
 refine wc_seq ?_
 have hS5 := hS4.drew
 refine wc_draw [0, 1, 2, 3, 4, 5, 6, 7, 8, 9, 10] [9] mix (by kernel_rfl) ?_
 refine vc_p rfl rfl rfl (fun _ => (ev_move rfl)) ?_
 refine vc_p rfl rfl rfl (fun _ => (ev_nilCheck rfl)) ?_
 refine vc_p rfl rfl rfl (fun _ => (ev_fieldAddr rfl fo_58_0)) ?_
 refine vc_q rfl rfl rfl (ev_load rfl ag_46 (by first | assumption | exact hS5.cell 0 rfl rfl | exact hS5.cell 1 rfl rfl)) ?_
 refine vc_p rfl rfl rfl (fun _ => (ev_move rfl)) ?_
 refine vc_p rfl rfl rfl (fun _ => (ev_nilCheck rfl)) ?_
 refine vc_p rfl rfl rfl (fun _ => (ev_fieldAddr rfl fo_58_1)) ?_
 refine vc_q rfl rfl rfl (ev_load rfl ag_3 (by first | assumption | exact hS5.cell 0 rfl rfl | exact hS5.cell 1 rfl rfl)) ?_
 refine vc_p rfl rfl rfl (fun _ => (ev_add rfl rfl (by omega) (by omega))) ?_
 refine vc_s rfl rfl rfl rfl rfl rfl ?_
 have hC6 := hS5.split [3] [false, false, false, true, false] rfl; dsimp only [selF, pickA, nthA, List.cons_append, List.nil_append] at hC6
 refine wl_call cal_74 rfl (truncRT hC6 (J.base + 1) 0) rfl ?_
 rintro e w6 ⟨_, rfl, rfl, hS6⟩; refine ⟨_, rfl, ?_⟩
 replace hS6 := hS6.join rfl; dsimp only [List.dropLast, List.cons_append, List.nil_append] at hS6; clear hC6
 clear hS5
 refine vc_e (.skip (by kernel_rfl) (.skip (by kernel_rfl) .nil)) ?_
 refine vc_p rfl rfl rfl (fun _ => (ev_assign rfl)) ?_
 refine VC.nil (qs_seq ?_)
 refine wc_sub (L' := [(6, _), (5, _), (4, _), (0, _), (1, _)]) (.cons rfl (.cons rfl (.cons rfl (.cons rfl (.cons rfl .nil))))) ?_
 refine wc_seq (wc_seq (wc_region (wl_move rfl rfl ?_)))
 refine wl_eql rfl rfl rfl ?_
 refine wl_nil (qs_seq ?_)
 refine wc_condD rfl (fun h7 => ?_) (fun h7 => ?_)
 ·have hc2 := h7
  have hS8 := hS6.drew
  refine wc_draw [0, 1, 2, 3, 4, 5, 6, 7, 8, 9, 10, 11] [10] mix (by kernel_rfl) ?_
  refine vc_p rfl rfl rfl (fun _ => (ev_move rfl)) ?_
  refine vc_p rfl rfl rfl (fun _ => (ev_nilCheck rfl)) ?_
  refine vc_p rfl rfl rfl (fun _ => (ev_fieldAddr rfl fo_58_0)) ?_
  refine vc_q rfl rfl rfl (ev_load rfl ag_46 (by first | assumption | exact hS8.cell 1 rfl rfl | exact hS8.cell 2 rfl rfl)) ?_
  refine vc_p rfl rfl rfl (fun _ => (ev_move rfl)) ?_
  refine vc_p rfl rfl rfl (fun _ => (ev_nilCheck rfl)) ?_
  refine vc_p rfl rfl rfl (fun _ => (ev_fieldAddr rfl fo_58_1)) ?_
  refine vc_q rfl rfl rfl (ev_load rfl ag_3 (by first | assumption | exact hS8.cell 1 rfl rfl | exact hS8.cell 2 rfl rfl)) ?_
  refine vc_p rfl rfl rfl (fun _ => (ev_add rfl rfl (by omega) (by omega))) ?_
  refine vc_p rfl rfl rfl (fun _ => (ev_move rfl)) ?_
  refine vc_s rfl rfl rfl rfl rfl rfl ?_
  have hC9 := hS8.split [0] [true, false, false, false, false] rfl; dsimp only [selF, pickA, nthA, List.cons_append, List.nil_append] at hC9
  refine wl_call cal_21 rfl (writeRT hC9 (J.base + 1) 0 (encJ l) (by omega)) rfl ?_
  rintro e w9 ⟨_, rfl, rfl, hS9⟩; refine ⟨_, rfl, ?_⟩
  replace hS9 := hS9.join rfl; dsimp only [List.dropLast, List.cons_append, List.nil_append] at hS9; clear hC9
  clear hS8
  refine vc_e (.skip (by kernel_rfl) (.skip (by kernel_rfl) .nil)) ?_
  refine vc_p rfl rfl rfl (fun _ => (ev_assign rfl)) ?_
  refine VC.nil (qs_seq ?_)
  refine wc_sub (L' := [(6, _), (5, _), (4, _), (0, _), (1, _)]) (.cons rfl (.cons rfl (.cons rfl (.cons rfl (.cons rfl .nil))))) ?_
  refine wc_seq (wc_seq (wc_region (wl_move rfl rfl ?_)))
  refine wl_eql rfl rfl rfl ?_
  refine wl_nil (qs_seq ?_)
  refine wc_condD rfl (fun h10 => ?_) (fun h10 => ?_)
  ·have hc3 := h10
   have hS11 := hS9.drew
   refine wc_draw [0, 1, 2, 3, 4, 5, 6, 7, 8, 9, 10] [9] mix (by kernel_rfl) ?_
   refine vc_p rfl rfl rfl (fun _ => (ev_move rfl)) ?_
   refine vc_p rfl rfl rfl (fun _ => (ev_nilCheck rfl)) ?_
   refine vc_p rfl rfl rfl (fun _ => (ev_fieldAddr rfl fo_58_0)) ?_
   refine vc_q rfl rfl rfl (ev_load rfl ag_46 (by first | assumption | exact hS11.cell 1 rfl rfl | exact hS11.cell 2 rfl rfl)) ?_
   refine vc_p rfl rfl rfl (fun _ => (ev_move rfl)) ?_
   refine vc_p rfl rfl rfl (fun _ => (ev_nilCheck rfl)) ?_
   refine vc_p rfl rfl rfl (fun _ => (ev_fieldAddr rfl fo_58_1)) ?_
   refine vc_q rfl rfl rfl (ev_load rfl ag_3 (by first | assumption | exact hS11.cell 1 rfl rfl | exact hS11.cell 2 rfl rfl)) ?_
   refine vc_p rfl rfl rfl (fun _ => (ev_add rfl rfl (by omega) (by omega))) ?_
   refine vc_s rfl rfl rfl rfl rfl rfl ?_
   have hC12 := hS11.split [0] [true, false, false, false, false] rfl; dsimp only [selF, pickA, nthA, List.cons_append, List.nil_append] at hC12
   refine wl_call cal_23 rfl (syncRT hC12 (J.base + 1)) rfl ?_
   rintro e w12 ⟨_, rfl, rfl, hS12⟩; refine ⟨_, rfl, ?_⟩
   replace hS12 := hS12.join rfl; dsimp only [List.dropLast, List.cons_append, List.nil_append] at hS12; clear hC12
   clear hS11
   refine vc_e (.skip (by kernel_rfl) (.skip (by kernel_rfl) .nil)) ?_
   refine vc_p rfl rfl rfl (fun _ => (ev_assign rfl)) ?_
   refine VC.nil (qs_seq ?_)
   refine wc_sub (L' := [(6, _), (5, _), (4, _), (0, _), (1, _)]) (.cons rfl (.cons rfl (.cons rfl (.cons rfl (.cons rfl .nil))))) ?_
   refine wc_seq (wc_seq (wc_region (wl_move rfl rfl ?_)))
   refine wl_eql rfl rfl rfl ?_
   refine wl_nil (qs_seq ?_)
   refine wc_condD rfl (fun h13 => ?_) (fun h13 => ?_)
   ·have hc4 := h13
    refine wc_region (wl_move rfl rfl (wl_move rfl rfl ?_))
    refine wl_lenS Tryz.underlying9 rfl rfl ?_
    have hC14 := hS12.split [1, 0, 2] [true, true, true, false, false] rfl; dsimp only [selF, pickA, nthA, List.cons_append, List.nil_append] at hC14
    refine wl_call cal_71 rfl (r5note_sp hC14 hJ.1.1 ((encJ l).length : Int) (by unfold inI; omega)) rfl ?_
    rintro e w14 ⟨_, rfl, rfl, hS14⟩; refine ⟨_, rfl, ?_⟩
    replace hS14 := hS14.join rfl; dsimp only [List.dropLast, List.cons_append, List.nil_append] at hS14; clear hC14
    clear hS12
    refine wl_assign rfl rfl (wl_nil (qs_seq ?_))
    refine wc_sub (L' := [(6, _), (4, _), (0, _), (1, _)]) (.cons rfl (.cons rfl (.cons rfl (.cons rfl .nil)))) ?_
    refine wc_seq (wc_seq (wc_region (wl_move rfl rfl ?_)))
    refine wl_eql rfl rfl rfl ?_
    refine wl_nil (qs_seq ?_)
    refine wc_condD rfl (fun h15 => ?_) (fun h15 => ?_)
    ·have hc5 := h15
     refine wc_region (wl_move rfl rfl (wl_move rfl rfl ?_))
     have hC16 := hS14.split [0, 1] [true, true, false, false, false] rfl; dsimp only [selF, pickA, nthA, List.cons_append, List.nil_append] at hC16
     refine wl_call cal_70 rfl (r5home_sp hC16 (hL.starL 2 rfl) hr3) rfl ?_
     rintro e w16 ⟨_, rfl, rfl, hS16⟩; refine ⟨_, rfl, ?_⟩
     replace hS16 := hS16.join rfl; dsimp only [List.dropLast, List.cons_append, List.nil_append] at hS16; clear hC16
     clear hS14
     refine wl_assign rfl rfl (wl_nil (qs_seq ?_))
     refine wc_mid (fun E0 W0 => ∃ (R : SR), E0 = [(0, ptrV kp 0), (1, .slice ao l.length cap), (6, intV R.e)] ∧ Sat W0 [blkT kp (rrV rp J.base cp ov J.bad), blkT cp (cellV rp R.C), rowT jbC ov (listB J.B), rT rp R.D, F] ∧ (R = putR0 D J.C J.base l) ∧ (CokJ R.C)) ?_ ?_
     ·refine wc_seq (wc_region (wl_move rfl rfl ?_))
      refine wl_eql rfl rfl rfl ?_
      refine wl_nil (qs_seq ?_)
      refine wc_sub (L' := [(63, _), (6, _), (4, _), (0, _), (1, _)]) (.cons rfl (.cons rfl (.cons rfl (.cons rfl (.cons rfl .nil))))) ?_
      refine wc_condD rfl (fun h18 => ?_) (fun h18 => ?_)
      ·have hc6 := h18
       refine wc_region (wl_move rfl rfl ?_)
       have hC19 := hS16.split [0, 1, 2] [true, true, true, false, false] rfl; dsimp only [selF, pickA, nthA, List.cons_append, List.nil_append] at hC19
       refine wl_call cal_71 rfl (r5note_sp hC19 (setR_cok hJ.1).1 0 in0) rfl ?_
       rintro e w19 ⟨_, rfl, rfl, hS19⟩; refine ⟨_, rfl, ?_⟩
       replace hS19 := hS19.join rfl; dsimp only [List.dropLast, List.cons_append, List.nil_append] at hS19; clear hC19
       clear hS16
       refine wl_assign rfl rfl (wl_nil ?_)
       exact qs_mid (.cons rfl (.cons rfl (.cons rfl .nil))) ⟨(noteR (homeR (noteR (SyncD (WriteD (TruncD D (J.base + 1) 0) (J.base + 1) 0 (encJ l)) (J.base + 1)) J.C ((encJ l).length : Int)).D J.base l).2 (noteR (SyncD (WriteD (TruncD D (J.base + 1) 0) (J.base + 1) 0 (encJ l)) (J.base + 1)) J.C ((encJ l).length : Int)).C 0), rfl, hS19.pick [0, 2, 3, 1, 4] rfl, ((put_d hc2 rfl hc3 rfl hc4 rfl).trans ((mid_b hc5).trans (end_b hc6))).symm, setR_cok (setR_cok hJ.1)⟩
      have hc6 := h18
      refine wc_skip ?_
      exact qs_mid (.cons rfl (.cons rfl (.cons rfl .nil))) ⟨⟨(homeR (noteR (SyncD (WriteD (TruncD D (J.base + 1) 0) (J.base + 1) 0 (encJ l)) (J.base + 1)) J.C ((encJ l).length : Int)).D J.base l).1, (homeR (noteR (SyncD (WriteD (TruncD D (J.base + 1) 0) (J.base + 1) 0 (encJ l)) (J.base + 1)) J.C ((encJ l).length : Int)).D J.base l).2, (noteR (SyncD (WriteD (TruncD D (J.base + 1) 0) (J.base + 1) 0 (encJ l)) (J.base + 1)) J.C ((encJ l).length : Int)).C⟩, rfl, hS16.pick [0, 2, 3, 1, 4] rfl, ((put_d hc2 rfl hc3 rfl hc4 rfl).trans ((mid_b hc5).trans (end_a hc6))).symm, setR_cok hJ.1⟩
     rintro _ w17 ⟨R, rfl, hS17, hR, hRC⟩
     refine wc_seq (wc_seq (wc_region (wl_move rfl rfl ?_)))
     refine wl_neq rfl rfl rfl ?_
     refine wl_nil (qs_seq ?_)
     refine wc_condD rfl (fun h20 => ?_) (fun h20 => ?_)
     ·have h7 := h20
      refine wc_seq (wc_region (wl_move rfl rfl (wl_nilCheck rfl rfl ?_)))
      refine wl_fieldAddr rfl fo_58_4 rfl ?_
      first | (refine wl_store hS17 rfl rfl sz_4 (by first | rfl | assumption | exact hS17.own_one 2 rfl) (i := 0) rfl (by first | decide | exact Nat.le_of_ble_eq_true rfl | (simp; done) | omega) ?_) | (refine wl_store hS17 rfl rfl sz_4 (by first | rfl | assumption | exact hS17.own_one 2 rfl) (i := 1) rfl (by first | decide | exact Nat.le_of_ble_eq_true rfl | (simp; done) | omega) ?_)
      intro w21 hS22; dsimp only [List.set] at hS22
      clear hS17
      refine wl_nil (qs_seq (wc_seq (wc_region (wl_move rfl rfl (wl_assign rfl rfl (wl_nil (qs_seq (wc_ret (qs_then_ret ?_)))))))))
      refine fin1 (.inr rfl) rfl rfl ?_
      exact ⟨_, rfl, _, by rw [commitR_c hbad hrt hR h7], by rw [commitR_c hbad hrt hR h7]; exact ⟨hRC, hJ.2.1, hJ.2.2⟩, by rw [commitR_c hbad hrt hR h7]; exact hS22.pick [0, 1, 2, 3, 4] rfl⟩
     have h7 : R.e = 0 := Decidable.not_not.1 h20
     refine wc_skip (qs_seq (wc_seq (wc_region (wl_move rfl rfl (wl_move rfl rfl (wl_nilCheck rfl rfl ?_))))))
     refine wl_fieldAddr rfl fo_58_3 rfl ?_
     refine wl_load rfl ag_32 (by first | assumption | exact hS17.cell 0 rfl rfl | exact hS17.cell 1 rfl rfl) rfl ?_
     refine wl_move rfl rfl ?_
     have hC23 := hS17.split [] [false, false, false, false, false] rfl; dsimp only [selF, pickA, nthA, List.cons_append, List.nil_append] at hC23
     refine wl_call cal_15 rfl (with_sp hC23 (Ent.starL (ent_row (C := jbC) (l := listB J.B) (by have := listB_len J.B; omega)) 2 rfl) (hL.starL 4 rfl) hrm) rfl ?_
     rintro e w23 ⟨_, rfl, hS23⟩; refine ⟨_, rfl, ?_⟩
     replace hS23 := hS23.join rfl; dsimp only [List.dropLast, List.cons_append, List.nil_append] at hS23; clear hC23
     clear hS17
     have h1af := hS23.own_one 0 rfl
     refine wl_nilCheck rfl rfl ?_
     refine wl_fieldAddr rfl fo_58_3 rfl ?_
     first | (refine wl_store hS23 rfl rfl sz_32 (by first | rfl | assumption | exact hS23.own_one 0 rfl | exact hS23.own_one 3 rfl) (i := 1) rfl (by first | decide | exact Nat.le_of_ble_eq_true rfl | (simp; done) | omega) ?_) | (refine wl_store hS23 rfl rfl sz_32 (by first | rfl | assumption | exact hS23.own_one 0 rfl | exact hS23.own_one 3 rfl) (i := 2) rfl (by first | decide | exact Nat.le_of_ble_eq_true rfl | (simp; done) | omega) ?_)
     intro w24 hS25; dsimp only [List.set] at hS25
     clear hS23
     refine wl_nil (qs_seq ?_)
     refine wc_sub (L' := []) .nil ?_
     refine wc_seq (wc_region (wl_assign rfl rfl (wl_nil (qs_seq (wc_ret ?_)))))
     refine fin1 (.inr rfl) rfl rfl ?_
     have hz := hS25.pick [1, 2, 0, 4, 5] rfl; rw [hbad] at hz
     exact ⟨_, rfl, _, by rw [commitR_d hbad hrt hR h7], by rw [commitR_d hbad hrt hR h7]; exact ⟨hRC, hJ.2.1, withB_ran hJ.2.2 hrt⟩, by rw [commitR_d hbad hrt hR h7]; exact hz⟩
    have hc5 := h15
    refine wc_skip (qs_seq ?_)
    refine wc_mid (fun E0 W0 => ∃ (R : SR), E0 = [(0, ptrV kp 0), (1, .slice ao l.length cap), (6, intV R.e)] ∧ Sat W0 [blkT kp (rrV rp J.base cp ov J.bad), blkT cp (cellV rp R.C), rowT jbC ov (listB J.B), rT rp R.D, F] ∧ (R = putR0 D J.C J.base l) ∧ (CokJ R.C)) ?_ ?_
    ·refine wc_seq (wc_region (wl_move rfl rfl ?_))
     refine wl_eql rfl rfl rfl ?_
     refine wl_nil (qs_seq ?_)
     refine wc_condD rfl (fun h27 => ?_) (fun h27 => ?_)
     ·exact absurd h27 hc5
     refine wc_skip ?_
     exact qs_mid (.cons rfl (.cons rfl (.cons rfl .nil))) ⟨(noteR (SyncD (WriteD (TruncD D (J.base + 1) 0) (J.base + 1) 0 (encJ l)) (J.base + 1)) J.C ((encJ l).length : Int)), rfl, hS14.pick [0, 2, 3, 1, 4] rfl, ((put_d hc2 rfl hc3 rfl hc4 rfl).trans (mid_a hc5)).symm, setR_cok hJ.1⟩
    rintro _ w26 ⟨R, rfl, hS26, hR, hRC⟩
    refine wc_seq (wc_seq (wc_region (wl_move rfl rfl ?_)))
    refine wl_neq rfl rfl rfl ?_
    refine wl_nil (qs_seq ?_)
    refine wc_condD rfl (fun h28 => ?_) (fun h28 => ?_)
    ·have h7 := h28
     refine wc_seq (wc_region (wl_move rfl rfl (wl_nilCheck rfl rfl ?_)))
     refine wl_fieldAddr rfl fo_58_4 rfl ?_
     first | (refine wl_store hS26 rfl rfl sz_4 (by first | rfl | assumption | exact hS26.own_one 2 rfl) (i := 0) rfl (by first | decide | exact Nat.le_of_ble_eq_true rfl | (simp; done) | omega) ?_) | (refine wl_store hS26 rfl rfl sz_4 (by first | rfl | assumption | exact hS26.own_one 2 rfl) (i := 1) rfl (by first | decide | exact Nat.le_of_ble_eq_true rfl | (simp; done) | omega) ?_)
     intro w29 hS30; dsimp only [List.set] at hS30
     clear hS26
     refine wl_nil (qs_seq (wc_seq (wc_region (wl_move rfl rfl (wl_assign rfl rfl (wl_nil (qs_seq (wc_ret (qs_then_ret ?_)))))))))
     refine fin1 (.inr rfl) rfl rfl ?_
     exact ⟨_, rfl, _, by rw [commitR_c hbad hrt hR h7], by rw [commitR_c hbad hrt hR h7]; exact ⟨hRC, hJ.2.1, hJ.2.2⟩, by rw [commitR_c hbad hrt hR h7]; exact hS30.pick [0, 1, 2, 3, 4] rfl⟩
    have h7 : R.e = 0 := Decidable.not_not.1 h28
    refine wc_skip (qs_seq (wc_seq (wc_region (wl_move rfl rfl (wl_move rfl rfl (wl_nilCheck rfl rfl ?_))))))
    refine wl_fieldAddr rfl fo_58_3 rfl ?_
    refine wl_load rfl ag_32 (by first | assumption | exact hS26.cell 0 rfl rfl | exact hS26.cell 1 rfl rfl) rfl ?_
    refine wl_move rfl rfl ?_
    have hC31 := hS26.split [] [false, false, false, false, false] rfl; dsimp only [selF, pickA, nthA, List.cons_append, List.nil_append] at hC31
    refine wl_call cal_15 rfl (with_sp hC31 (Ent.starL (ent_row (C := jbC) (l := listB J.B) (by have := listB_len J.B; omega)) 2 rfl) (hL.starL 4 rfl) hrm) rfl ?_
    rintro e w31 ⟨_, rfl, hS31⟩; refine ⟨_, rfl, ?_⟩
    replace hS31 := hS31.join rfl; dsimp only [List.dropLast, List.cons_append, List.nil_append] at hS31; clear hC31
    clear hS26
    have h1af := hS31.own_one 0 rfl
    refine wl_nilCheck rfl rfl ?_
    refine wl_fieldAddr rfl fo_58_3 rfl ?_
    first | (refine wl_store hS31 rfl rfl sz_32 (by first | rfl | assumption | exact hS31.own_one 0 rfl | exact hS31.own_one 3 rfl) (i := 1) rfl (by first | decide | exact Nat.le_of_ble_eq_true rfl | (simp; done) | omega) ?_) | (refine wl_store hS31 rfl rfl sz_32 (by first | rfl | assumption | exact hS31.own_one 0 rfl | exact hS31.own_one 3 rfl) (i := 2) rfl (by first | decide | exact Nat.le_of_ble_eq_true rfl | (simp; done) | omega) ?_)
    intro w32 hS33; dsimp only [List.set] at hS33
    clear hS31
    refine wl_nil (qs_seq ?_)
    refine wc_sub (L' := []) .nil ?_
    refine wc_seq (wc_region (wl_assign rfl rfl (wl_nil (qs_seq (wc_ret ?_)))))
    refine fin1 (.inr rfl) rfl rfl ?_
    have hz := hS33.pick [1, 2, 0, 4, 5] rfl; rw [hbad] at hz
    exact ⟨_, rfl, _, by rw [commitR_d hbad hrt hR h7], by rw [commitR_d hbad hrt hR h7]; exact ⟨hRC, hJ.2.1, withB_ran hJ.2.2 hrt⟩, by rw [commitR_d hbad hrt hR h7]; exact hz⟩
   have hc4 := h13
   refine wc_skip (qs_seq (wc_seq (wc_seq (wc_region (wl_move rfl rfl ?_)))))
   refine wl_eql rfl rfl rfl ?_
   refine wl_nil (qs_seq ?_)
   refine wc_condD rfl (fun h34 => ?_) (fun h34 => ?_)
   ·exact absurd h34 hc4
   refine wc_skip (qs_seq ?_)
   refine wc_mid (fun E0 W0 => ∃ (R : SR), E0 = [(0, ptrV kp 0), (1, .slice ao l.length cap), (6, intV R.e)] ∧ Sat W0 [blkT kp (rrV rp J.base cp ov J.bad), blkT cp (cellV rp R.C), rowT jbC ov (listB J.B), rT rp R.D, F] ∧ (R = putR0 D J.C J.base l) ∧ (CokJ R.C)) ?_ ?_
   ·refine wc_seq (wc_region (wl_move rfl rfl ?_))
    refine wl_eql rfl rfl rfl ?_
    refine wl_nil (qs_seq ?_)
    refine wc_sub (L' := [(63, _), (6, _), (4, _), (0, _), (1, _)]) (.cons rfl (.cons rfl (.cons rfl (.cons rfl (.cons rfl .nil))))) ?_
    refine wc_condD rfl (fun h36 => ?_) (fun h36 => ?_)
    ·exact absurd h36 hc4
    refine wc_skip ?_
    exact qs_mid (.cons rfl (.cons rfl (.cons rfl .nil))) ⟨⟨SyncE (WriteD (TruncD D (J.base + 1) 0) (J.base + 1) 0 (encJ l)) (J.base + 1), (SyncD (WriteD (TruncD D (J.base + 1) 0) (J.base + 1) 0 (encJ l)) (J.base + 1)), J.C⟩, rfl, hS12.pick [1, 2, 3, 0, 4] rfl, (put_c hc2 rfl hc3 rfl hc4).symm, hJ.1⟩
   rintro _ w35 ⟨R, rfl, hS35, hR, hRC⟩
   refine wc_seq (wc_seq (wc_region (wl_move rfl rfl ?_)))
   refine wl_neq rfl rfl rfl ?_
   refine wl_nil (qs_seq ?_)
   refine wc_condD rfl (fun h37 => ?_) (fun h37 => ?_)
   ·have h7 := h37
    refine wc_seq (wc_region (wl_move rfl rfl (wl_nilCheck rfl rfl ?_)))
    refine wl_fieldAddr rfl fo_58_4 rfl ?_
    first | (refine wl_store hS35 rfl rfl sz_4 (by first | rfl | assumption | exact hS35.own_one 2 rfl) (i := 0) rfl (by first | decide | exact Nat.le_of_ble_eq_true rfl | (simp; done) | omega) ?_) | (refine wl_store hS35 rfl rfl sz_4 (by first | rfl | assumption | exact hS35.own_one 2 rfl) (i := 1) rfl (by first | decide | exact Nat.le_of_ble_eq_true rfl | (simp; done) | omega) ?_)
    intro w38 hS39; dsimp only [List.set] at hS39
    clear hS35
    refine wl_nil (qs_seq (wc_seq (wc_region (wl_move rfl rfl (wl_assign rfl rfl (wl_nil (qs_seq (wc_ret (qs_then_ret ?_)))))))))
    refine fin1 (.inr rfl) rfl rfl ?_
    exact ⟨_, rfl, _, by rw [commitR_c hbad hrt hR h7], by rw [commitR_c hbad hrt hR h7]; exact ⟨hRC, hJ.2.1, hJ.2.2⟩, by rw [commitR_c hbad hrt hR h7]; exact hS39.pick [0, 1, 2, 3, 4] rfl⟩
   have h7 : R.e = 0 := Decidable.not_not.1 h37
   refine wc_skip (qs_seq (wc_seq (wc_region (wl_move rfl rfl (wl_move rfl rfl (wl_nilCheck rfl rfl ?_))))))
   refine wl_fieldAddr rfl fo_58_3 rfl ?_
   refine wl_load rfl ag_32 (by first | assumption | exact hS35.cell 0 rfl rfl | exact hS35.cell 1 rfl rfl) rfl ?_
   refine wl_move rfl rfl ?_
   have hC40 := hS35.split [] [false, false, false, false, false] rfl; dsimp only [selF, pickA, nthA, List.cons_append, List.nil_append] at hC40
   refine wl_call cal_15 rfl (with_sp hC40 (Ent.starL (ent_row (C := jbC) (l := listB J.B) (by have := listB_len J.B; omega)) 2 rfl) (hL.starL 4 rfl) hrm) rfl ?_
   rintro e w40 ⟨_, rfl, hS40⟩; refine ⟨_, rfl, ?_⟩
   replace hS40 := hS40.join rfl; dsimp only [List.dropLast, List.cons_append, List.nil_append] at hS40; clear hC40
   clear hS35
   have h1af := hS40.own_one 0 rfl
   refine wl_nilCheck rfl rfl ?_
   refine wl_fieldAddr rfl fo_58_3 rfl ?_
   first | (refine wl_store hS40 rfl rfl sz_32 (by first | rfl | assumption | exact hS40.own_one 0 rfl | exact hS40.own_one 3 rfl) (i := 1) rfl (by first | decide | exact Nat.le_of_ble_eq_true rfl | (simp; done) | omega) ?_) | (refine wl_store hS40 rfl rfl sz_32 (by first | rfl | assumption | exact hS40.own_one 0 rfl | exact hS40.own_one 3 rfl) (i := 2) rfl (by first | decide | exact Nat.le_of_ble_eq_true rfl | (simp; done) | omega) ?_)
   intro w41 hS42; dsimp only [List.set] at hS42
   clear hS40
   refine wl_nil (qs_seq ?_)
   refine wc_sub (L' := []) .nil ?_
   refine wc_seq (wc_region (wl_assign rfl rfl (wl_nil (qs_seq (wc_ret ?_)))))
   refine fin1 (.inr rfl) rfl rfl ?_
   have hz := hS42.pick [1, 2, 0, 4, 5] rfl; rw [hbad] at hz
   exact ⟨_, rfl, _, by rw [commitR_d hbad hrt hR h7], by rw [commitR_d hbad hrt hR h7]; exact ⟨hRC, hJ.2.1, withB_ran hJ.2.2 hrt⟩, by rw [commitR_d hbad hrt hR h7]; exact hz⟩
  have hc3 := h10
  refine wc_skip (qs_seq (wc_seq (wc_seq (wc_region (wl_move rfl rfl ?_)))))
  refine wl_eql rfl rfl rfl ?_
  refine wl_nil (qs_seq ?_)
  refine wc_condD rfl (fun h43 => ?_) (fun h43 => ?_)
  ·exact absurd h43 hc3
  refine wc_skip (qs_seq (wc_seq (wc_seq (wc_region (wl_move rfl rfl ?_)))))
  refine wl_eql rfl rfl rfl ?_
  refine wl_nil (qs_seq ?_)
  refine wc_sub (L' := [(58, _), (6, _), (4, _), (0, _), (1, _)]) (.cons rfl (.cons rfl (.cons rfl (.cons rfl (.cons rfl .nil))))) ?_
  refine wc_condD rfl (fun h44 => ?_) (fun h44 => ?_)
  ·exact absurd h44 hc3
  refine wc_skip (qs_seq ?_)
  refine wc_mid (fun E0 W0 => ∃ (R : SR), E0 = [(0, ptrV kp 0), (1, .slice ao l.length cap), (6, intV R.e)] ∧ Sat W0 [blkT kp (rrV rp J.base cp ov J.bad), blkT cp (cellV rp R.C), rowT jbC ov (listB J.B), rT rp R.D, F] ∧ (R = putR0 D J.C J.base l) ∧ (CokJ R.C)) ?_ ?_
  ·refine wc_seq (wc_region (wl_move rfl rfl ?_))
   refine wl_eql rfl rfl rfl ?_
   refine wl_nil (qs_seq ?_)
   refine wc_condD rfl (fun h46 => ?_) (fun h46 => ?_)
   ·exact absurd h46 hc3
   refine wc_skip ?_
   exact qs_mid (.cons rfl (.cons rfl (.cons rfl .nil))) ⟨⟨WriteE (TruncD D (J.base + 1) 0) (J.base + 1) 0 (encJ l), (WriteD (TruncD D (J.base + 1) 0) (J.base + 1) 0 (encJ l)), J.C⟩, rfl, hS9.pick [1, 2, 3, 0, 4] rfl, (put_b hc2 rfl hc3).symm, hJ.1⟩
  rintro _ w45 ⟨R, rfl, hS45, hR, hRC⟩
  refine wc_seq (wc_seq (wc_region (wl_move rfl rfl ?_)))
  refine wl_neq rfl rfl rfl ?_
  refine wl_nil (qs_seq ?_)
  refine wc_condD rfl (fun h47 => ?_) (fun h47 => ?_)
  ·have h7 := h47
   refine wc_seq (wc_region (wl_move rfl rfl (wl_nilCheck rfl rfl ?_)))
   refine wl_fieldAddr rfl fo_58_4 rfl ?_
   first | (refine wl_store hS45 rfl rfl sz_4 (by first | rfl | assumption | exact hS45.own_one 2 rfl) (i := 0) rfl (by first | decide | exact Nat.le_of_ble_eq_true rfl | (simp; done) | omega) ?_) | (refine wl_store hS45 rfl rfl sz_4 (by first | rfl | assumption | exact hS45.own_one 2 rfl) (i := 1) rfl (by first | decide | exact Nat.le_of_ble_eq_true rfl | (simp; done) | omega) ?_)
   intro w48 hS49; dsimp only [List.set] at hS49
   clear hS45
   refine wl_nil (qs_seq (wc_seq (wc_region (wl_move rfl rfl (wl_assign rfl rfl (wl_nil (qs_seq (wc_ret (qs_then_ret ?_)))))))))
   refine fin1 (.inr rfl) rfl rfl ?_
   exact ⟨_, rfl, _, by rw [commitR_c hbad hrt hR h7], by rw [commitR_c hbad hrt hR h7]; exact ⟨hRC, hJ.2.1, hJ.2.2⟩, by rw [commitR_c hbad hrt hR h7]; exact hS49.pick [0, 1, 2, 3, 4] rfl⟩
  have h7 : R.e = 0 := Decidable.not_not.1 h47
  refine wc_skip (qs_seq (wc_seq (wc_region (wl_move rfl rfl (wl_move rfl rfl (wl_nilCheck rfl rfl ?_))))))
  refine wl_fieldAddr rfl fo_58_3 rfl ?_
  refine wl_load rfl ag_32 (by first | assumption | exact hS45.cell 0 rfl rfl | exact hS45.cell 1 rfl rfl) rfl ?_
  refine wl_move rfl rfl ?_
  have hC50 := hS45.split [] [false, false, false, false, false] rfl; dsimp only [selF, pickA, nthA, List.cons_append, List.nil_append] at hC50
  refine wl_call cal_15 rfl (with_sp hC50 (Ent.starL (ent_row (C := jbC) (l := listB J.B) (by have := listB_len J.B; omega)) 2 rfl) (hL.starL 4 rfl) hrm) rfl ?_
  rintro e w50 ⟨_, rfl, hS50⟩; refine ⟨_, rfl, ?_⟩
  replace hS50 := hS50.join rfl; dsimp only [List.dropLast, List.cons_append, List.nil_append] at hS50; clear hC50
  clear hS45
  have h1af := hS50.own_one 0 rfl
  refine wl_nilCheck rfl rfl ?_
  refine wl_fieldAddr rfl fo_58_3 rfl ?_
  first | (refine wl_store hS50 rfl rfl sz_32 (by first | rfl | assumption | exact hS50.own_one 0 rfl | exact hS50.own_one 3 rfl) (i := 1) rfl (by first | decide | exact Nat.le_of_ble_eq_true rfl | (simp; done) | omega) ?_) | (refine wl_store hS50 rfl rfl sz_32 (by first | rfl | assumption | exact hS50.own_one 0 rfl | exact hS50.own_one 3 rfl) (i := 2) rfl (by first | decide | exact Nat.le_of_ble_eq_true rfl | (simp; done) | omega) ?_)
  intro w51 hS52; dsimp only [List.set] at hS52
  clear hS50
  refine wl_nil (qs_seq ?_)
  refine wc_sub (L' := []) .nil ?_
  refine wc_seq (wc_region (wl_assign rfl rfl (wl_nil (qs_seq (wc_ret ?_)))))
  refine fin1 (.inr rfl) rfl rfl ?_
  have hz := hS52.pick [1, 2, 0, 4, 5] rfl; rw [hbad] at hz
  exact ⟨_, rfl, _, by rw [commitR_d hbad hrt hR h7], by rw [commitR_d hbad hrt hR h7]; exact ⟨hRC, hJ.2.1, withB_ran hJ.2.2 hrt⟩, by rw [commitR_d hbad hrt hR h7]; exact hz⟩
 have hc2 := h7
 refine wc_skip (qs_seq (wc_seq (wc_seq (wc_region (wl_move rfl rfl ?_)))))
 refine wl_eql rfl rfl rfl ?_
 refine wl_nil (qs_seq ?_)
 refine wc_condD rfl (fun h53 => ?_) (fun h53 => ?_)
 ·exact absurd h53 hc2
 refine wc_skip (qs_seq (wc_seq (wc_seq (wc_region (wl_move rfl rfl ?_)))))
 refine wl_eql rfl rfl rfl ?_
 refine wl_nil (qs_seq ?_)
 refine wc_sub (L' := [(52, _), (6, _), (5, _), (4, _), (0, _), (1, _)]) (.cons rfl (.cons rfl (.cons rfl (.cons rfl (.cons rfl (.cons rfl .nil)))))) ?_
 refine wc_condD rfl (fun h54 => ?_) (fun h54 => ?_)
 ·exact absurd h54 hc2
 refine wc_skip (qs_seq (wc_seq (wc_seq (wc_region (wl_move rfl rfl ?_)))))
 refine wl_eql rfl rfl rfl ?_
 refine wl_nil (qs_seq ?_)
 refine wc_condD rfl (fun h55 => ?_) (fun h55 => ?_)
 ·exact absurd h55 hc2
 refine wc_skip (qs_seq ?_)
 refine wc_mid (fun E0 W0 => ∃ (R : SR), E0 = [(0, ptrV kp 0), (1, .slice ao l.length cap), (6, intV R.e)] ∧ Sat W0 [blkT kp (rrV rp J.base cp ov J.bad), blkT cp (cellV rp R.C), rowT jbC ov (listB J.B), rT rp R.D, F] ∧ (R = putR0 D J.C J.base l) ∧ (CokJ R.C)) ?_ ?_
 ·refine wc_seq (wc_region (wl_move rfl rfl ?_))
  refine wl_eql rfl rfl rfl ?_
  refine wl_nil (qs_seq ?_)
  refine wc_condD rfl (fun h57 => ?_) (fun h57 => ?_)
  ·exact absurd h57 hc2
  refine wc_skip ?_
  exact qs_mid (.cons rfl (.cons rfl (.cons rfl .nil))) ⟨⟨TruncE D (J.base + 1) 0, (TruncD D (J.base + 1) 0), J.C⟩, rfl, hS6.pick [1, 2, 3, 0, 4] rfl, (put_a hc2).symm, hJ.1⟩
 rintro _ w56 ⟨R, rfl, hS56, hR, hRC⟩
 refine wc_seq (wc_seq (wc_region (wl_move rfl rfl ?_)))
 refine wl_neq rfl rfl rfl ?_
 refine wl_nil (qs_seq ?_)
 refine wc_condD rfl (fun h58 => ?_) (fun h58 => ?_)
 ·have h7 := h58
  refine wc_seq (wc_region (wl_move rfl rfl (wl_nilCheck rfl rfl ?_)))
  refine wl_fieldAddr rfl fo_58_4 rfl ?_
  first | (refine wl_store hS56 rfl rfl sz_4 (by first | rfl | assumption | exact hS56.own_one 2 rfl) (i := 0) rfl (by first | decide | exact Nat.le_of_ble_eq_true rfl | (simp; done) | omega) ?_) | (refine wl_store hS56 rfl rfl sz_4 (by first | rfl | assumption | exact hS56.own_one 2 rfl) (i := 1) rfl (by first | decide | exact Nat.le_of_ble_eq_true rfl | (simp; done) | omega) ?_)
  intro w59 hS60; dsimp only [List.set] at hS60
  clear hS56
  refine wl_nil (qs_seq (wc_seq (wc_region (wl_move rfl rfl (wl_assign rfl rfl (wl_nil (qs_seq (wc_ret (qs_then_ret ?_)))))))))
  refine fin1 (.inr rfl) rfl rfl ?_
  exact ⟨_, rfl, _, by rw [commitR_c hbad hrt hR h7], by rw [commitR_c hbad hrt hR h7]; exact ⟨hRC, hJ.2.1, hJ.2.2⟩, by rw [commitR_c hbad hrt hR h7]; exact hS60.pick [0, 1, 2, 3, 4] rfl⟩
 have h7 : R.e = 0 := Decidable.not_not.1 h58
 refine wc_skip (qs_seq (wc_seq (wc_region (wl_move rfl rfl (wl_move rfl rfl (wl_nilCheck rfl rfl ?_))))))
 refine wl_fieldAddr rfl fo_58_3 rfl ?_
 refine wl_load rfl ag_32 (by first | assumption | exact hS56.cell 0 rfl rfl | exact hS56.cell 1 rfl rfl) rfl ?_
 refine wl_move rfl rfl ?_
 have hC61 := hS56.split [] [false, false, false, false, false] rfl; dsimp only [selF, pickA, nthA, List.cons_append, List.nil_append] at hC61
 refine wl_call cal_15 rfl (with_sp hC61 (Ent.starL (ent_row (C := jbC) (l := listB J.B) (by have := listB_len J.B; omega)) 2 rfl) (hL.starL 4 rfl) hrm) rfl ?_
 rintro e w61 ⟨_, rfl, hS61⟩; refine ⟨_, rfl, ?_⟩
 replace hS61 := hS61.join rfl; dsimp only [List.dropLast, List.cons_append, List.nil_append] at hS61; clear hC61
 clear hS56
 have h1af := hS61.own_one 0 rfl
 refine wl_nilCheck rfl rfl ?_
 refine wl_fieldAddr rfl fo_58_3 rfl ?_
 first | (refine wl_store hS61 rfl rfl sz_32 (by first | rfl | assumption | exact hS61.own_one 0 rfl | exact hS61.own_one 3 rfl) (i := 1) rfl (by first | decide | exact Nat.le_of_ble_eq_true rfl | (simp; done) | omega) ?_) | (refine wl_store hS61 rfl rfl sz_32 (by first | rfl | assumption | exact hS61.own_one 0 rfl | exact hS61.own_one 3 rfl) (i := 2) rfl (by first | decide | exact Nat.le_of_ble_eq_true rfl | (simp; done) | omega) ?_)
 intro w62 hS63; dsimp only [List.set] at hS63
 clear hS61
 refine wl_nil (qs_seq ?_)
 refine wc_sub (L' := []) .nil ?_
 refine wc_seq (wc_region (wl_assign rfl rfl (wl_nil (qs_seq (wc_ret ?_)))))
 refine fin1 (.inr rfl) rfl rfl ?_
 have hz := hS63.pick [1, 2, 0, 4, 5] rfl; rw [hbad] at hz
 exact ⟨_, rfl, _, by rw [commitR_d hbad hrt hR h7], by rw [commitR_d hbad hrt hR h7]; exact ⟨hRC, hJ.2.1, withB_ran hJ.2.2 hrt⟩, by rw [commitR_d hbad hrt hR h7]; exact hz⟩
theorem rT_inv {w : World} {As : List Th} {p : Nat} {D : DS} (hS : Sat w As) (i : Nat) (hi : As[i]? = some (rT p D)) : DInv D := by
  obtain ⟨kp, _, h⟩ := rT_open (hS.pull i hi)
  obtain ⟨_, hI, _⟩ := refT_open h
  exact hI.inv
set_option maxRecDepth 100000 in
set_option maxHeartbeats 20000000 in
theorem r5open_sp {w : World} {rp : Nat} {D : DS} {F : Th} (hS : Sat w [rT rp D, F]) (base : Int) :
    Calls Tryz.prog 25 #[ptrV rp 0, intV base] w (Ret fun v w' => ((openJ D base).e = 0 ∧ ∃ kp cp lv, v = .tuple #[ptrV kp 0, intV 0] ∧ JokJ (openJ D base).J ∧ Sat w' [blkT kp (rrV rp (openJ D base).J.base cp lv (openJ D base).J.bad), blkT cp (cellV rp (openJ D base).J.C), rowT jbC lv (listB (openJ D base).J.B), rT rp (openJ D base).D, F]) ∨ ((openJ D base).e ≠ 0 ∧ v = .tuple #[.pointer none, intV (openJ D base).e] ∧ Sat w' [rT rp (openJ D base).D, F])) := by
 refine calls_enter Tryz.func25 rfl Tryz.ntmps25 rfl ?_
 have hIv := rT_inv hS 0 rfl
 refine wc_seq (wc_region (wl_assign rfl rfl (wl_assign rfl rfl (wl_nil (qs_seq (wc_seq (wc_seq (wc_region (wl_move rfl rfl ?_)))))))))
 refine wl_lss rfl rfl rfl ?_
 refine wl_move rfl rfl ?_
 refine wl_splitD 23 rfl (fun h1 => ?_) (fun h1 => ?_)
 ·refine wl_unwanted rfl rfl (decide_eq_true h1) rfl ?_
  refine wl_unwanted rfl rfl (decide_eq_true h1) rfl ?_
  refine wl_pickT rfl (decide_eq_true h1) rfl rfl ?_
  refine wl_nil (qs_seq ?_)
  refine wc_condT rfl ?_
  refine wc_seq (wc_region (wl_assign rfl rfl (wl_assign rfl rfl (wl_nil (qs_seq (wc_ret (qs_then_ret ?_)))))))
  refine fin2 (.inr rfl) rfl rfl rfl ?_
  obtain ⟨q1, q2⟩ := openJ_a (D := D) (f := base) (by omega)
  exact ⟨_, rfl, .inr ⟨by rw [q1]; decide, by rw [q1], by rw [q2]; exact hS.pick [0, 1] rfl⟩⟩
 refine wl_guard rfl rfl (decide_eq_false h1) ?_
 refine wl_move rfl rfl ?_
 refine wl_guard rfl rfl (decide_eq_false h1) ?_
 refine wl_gtr rfl rfl rfl ?_
 refine wl_pickF rfl (decide_eq_false h1) rfl rfl ?_
 refine wl_nil (qs_seq ?_)
 refine wc_condD rfl (fun h2 => ?_) (fun h2 => ?_)
 ·refine wc_seq (wc_region (wl_assign rfl rfl (wl_assign rfl rfl (wl_nil (qs_seq (wc_ret (qs_then_ret ?_)))))))
  refine fin2 (.inr rfl) rfl rfl rfl ?_
  obtain ⟨q1, q2⟩ := openJ_a (D := D) (f := base) (by omega)
  exact ⟨_, rfl, .inr ⟨by rw [q1]; decide, by rw [q1], by rw [q2]; exact hS.pick [0, 1] rfl⟩⟩
 have hb : 0 ≤ base ∧ base ≤ 13 := by omega
 refine wc_skip (qs_seq (wc_seq (wc_region (wl_move rfl rfl (wl_move rfl rfl ?_)))))
 refine wl_add rfl rfl (by omega) (by omega) rfl ?_
 have hC3 := hS.split [0] [true, false] rfl; dsimp only [selF, pickA, nthA, List.cons_append, List.nil_append] at hC3
 refine wl_call cal_64 rfl (openR_sp hC3 (base + 2)) rfl ?_
 rintro e w3 ⟨_, rfl, (⟨hE1, cp, rfl, hS3⟩ | ⟨hE1, rfl, hS3⟩)⟩
 ·refine ⟨_, rfl, ?_⟩
  replace hS3 := hS3.join rfl; dsimp only [List.dropLast, List.cons_append, List.nil_append] at hS3; clear hC3
  refine wl_move rfl rfl (wl_extract rfl rfl rfl (wl_extract rfl rfl rfl (wl_assign rfl rfl (wl_assign rfl rfl (wl_nil (qs_seq ?_))))))
  refine wc_sub (L' := [(7, _), (6, _), (5, _), (4, _), (0, _), (1, _)]) (.cons rfl (.cons rfl (.cons rfl (.cons rfl (.cons rfl (.cons rfl .nil)))))) ?_
  refine wc_seq (wc_seq (wc_region (wl_move rfl rfl ?_)))
  refine wl_neq rfl rfl rfl ?_
  refine wl_nil (qs_seq ?_)
  refine wc_condD rfl (fun h4 => ?_) (fun h4 => ?_)
  ·exact absurd rfl h4
  refine wc_skip (qs_seq (wc_seq (wc_region (wl_move rfl rfl (wl_move rfl rfl (wl_move rfl rfl ?_))))))
  refine wl_buildS rfl pl_58_0_1_2 asz_58 zr_58 rfl rfl ?_
  refine wl_box hS3 rfl rfl rfl ?_
  intro kp wkp hSkp0
  have hSkp : Sat wkp [blkT kp (rrV rp base cp (.slice none 0 0) false), blkT cp (cellV rp (openC D (base + 2))), rT rp D, F] := hSkp0
  clear hS3
  refine wl_assign rfl rfl (wl_nil (qs_seq ?_))
  refine wc_sub (L' := [(8, _), (6, _), (5, _), (4, _), (0, _), (1, _)]) (.cons rfl (.cons rfl (.cons rfl (.cons rfl (.cons rfl (.cons rfl .nil)))))) ?_
  refine wc_seq ?_
  have hCok := openC_cok D (base + 2)
  have hvl := hCok.2
  refine wc_region (wl_move rfl rfl ?_)
  have hC5 := hSkp.split [1] [false, true, false, false] rfl; dsimp only [selF, pickA, nthA, List.cons_append, List.nil_append] at hC5
  refine wl_call cal_65 rfl (getR_sp4 hC5) rfl ?_
  rintro e w5 ⟨_, rfl, rfl, hS5⟩; refine ⟨_, rfl, ?_⟩
  replace hS5 := hS5.join rfl; dsimp only [List.dropLast, List.cons_append, List.nil_append] at hS5; clear hC5
  clear hSkp
  refine wl_move rfl rfl (wl_extract rfl rfl rfl (wl_extract rfl rfl rfl (wl_assign rfl rfl (wl_assign rfl rfl (wl_nil (qs_seq ?_))))))
  refine wc_sub (L' := [(9, _), (8, _), (5, _), (4, _), (0, _), (1, _)]) (.cons rfl (.cons rfl (.cons rfl (.cons rfl (.cons rfl (.cons rfl .nil)))))) ?_
  refine wc_seq (wc_region (wl_move rfl rfl ?_))
  have hC6 := hS5.split [] [false, false, false, false] rfl; dsimp only [selF, pickA, nthA, List.cons_append, List.nil_append] at hC6
  refine wl_call cal_66 rfl (r1Open_sp hC6 (openC D (base + 2)).val) rfl ?_
  rintro e w6 ⟨_, rfl, rb, rfl, hS6⟩; refine ⟨_, rfl, ?_⟩
  replace hS6 := hS6.join rfl; dsimp only [List.dropLast, List.cons_append, List.nil_append] at hS6; clear hC6
  clear hS5
  refine wl_assign rfl rfl (wl_nil (qs_seq (wc_seq (wc_region (wl_move rfl rfl ?_)))))
  have hC7 := hS6.split [0] [true, false, false, false, false] rfl; dsimp only [selF, pickA, nthA, List.cons_append, List.nil_append] at hC7
  refine wl_call cal_67 rfl (r1RInt_sp hC7 (by dsimp only; omega)) rfl ?_
  rintro e w7 ⟨_, rfl, rfl, hS7⟩; refine ⟨_, rfl, ?_⟩
  replace hS7 := hS7.join rfl; dsimp only [List.dropLast, List.cons_append, List.nil_append] at hS7; clear hC7
  clear hS6
  refine wl_assign rfl rfl (wl_nil ?_)
  rw [iV_eq]
  obtain ⟨n, hn⟩ : ∃ n, n = iV ((openC D (base + 2)).val, false) := ⟨_, rfl⟩
  rw [← hn]
  have hnI : inI n := by rw [hn]; exact numV_in _ _ _
  refine qs_seq ?_
  refine wc_sub (L' := [(12, _), (9, _), (8, _), (5, _), (4, _), (0, _), (1, _)]) (.cons rfl (.cons rfl (.cons rfl (.cons rfl (.cons rfl (.cons rfl (.cons rfl .nil))))))) ?_
  refine wc_mid (fun E0 W0 => ∃ (R : SR), E0 = [(0, ptrV rp 0), (1, intV base), (8, ptrV kp 0)] ∧ Sat W0 [blkT kp (rrV rp base cp (.slice none 0 0) false), rT rp R.D, blkT cp (cellV rp R.C), F] ∧ (R = replR D base (openC D (base + 2))) ∧ (R.e = 0)) ?_ ?_
  ·refine wc_seq (wc_region (wl_move rfl rfl ?_))
   have hC9 := hS7.split [] [false, false, false, false, false] rfl; dsimp only [selF, pickA, nthA, List.cons_append, List.nil_append] at hC9
   refine wl_call cal_68 rfl (r1Int_sp hC9 n hnI) rfl ?_
   rintro e w9 ⟨_, rfl, rfl, hS9⟩; refine ⟨_, rfl, ?_⟩
   replace hS9 := hS9.join rfl; dsimp only [List.dropLast, List.cons_append, List.nil_append] at hS9; clear hC9
   clear hS7
   refine wl_move rfl rfl ?_
   refine wl_eqlS rfl rfl rfl ?_
   refine wl_move rfl rfl ?_
   refine wl_splitD 55 rfl (fun h10 => ?_) (fun h10 => ?_)
   ·have h104 : encN n = (openC D (base + 2)).val := h10
    refine wl_guard rfl rfl (decide_eq_true h10) ?_
    refine wl_move rfl rfl ?_
    refine wl_guard rfl rfl (decide_eq_true h10) ?_
    refine wl_gtr rfl rfl rfl ?_
    refine wl_pickT rfl (decide_eq_true h10) rfl rfl ?_
    refine wl_nil (qs_seq ?_)
    refine wc_sub (L' := [(58, _), (12, _), (8, _), (5, _), (4, _), (0, _), (1, _)]) (.cons rfl (.cons rfl (.cons rfl (.cons rfl (.cons rfl (.cons rfl (.cons rfl .nil))))))) ?_
    refine wc_condD rfl (fun h11 => ?_) (fun h11 => ?_)
    ·refine wc_seq (wc_region (wl_move rfl rfl (wl_move rfl rfl ?_)))
     refine wl_add rfl rfl (by omega) (by omega) rfl ?_
     refine wl_move rfl rfl ?_
     have hC12 := hS9.split [3] [false, false, false, true, false] rfl; dsimp only [selF, pickA, nthA, List.cons_append, List.nil_append] at hC12
     refine wl_call cal_33 rfl (readRT hC12 (base + 1) 0 n) rfl ?_
     rintro e w12 ⟨_, rfl, rfl, hS12⟩; refine ⟨_, rfl, ?_⟩
     replace hS12 := hS12.join rfl; dsimp only [List.dropLast, List.cons_append, List.nil_append] at hS12; clear hC12
     clear hS9
     refine wl_move rfl rfl (wl_extract rfl rfl rfl (wl_extract rfl rfl rfl (wl_assign rfl rfl (wl_assign rfl rfl (wl_nil (qs_seq ?_))))))
     refine wc_sub (L' := [(14, _), (13, _), (8, _), (5, _), (4, _), (0, _), (1, _)]) (.cons rfl (.cons rfl (.cons rfl (.cons rfl (.cons rfl (.cons rfl (.cons rfl .nil))))))) ?_
     refine wc_seq (wc_seq (wc_region (wl_move rfl rfl ?_)))
     refine wl_neq rfl rfl rfl ?_
     refine wl_nil (qs_seq ?_)
     refine wc_condD rfl (fun h13 => ?_) (fun h13 => ?_)
     ·have h3 := h13
      refine wc_seq (wc_region (wl_move rfl rfl (wl_assign rfl rfl (wl_assign rfl rfl (wl_nil (qs_seq (wc_ret (qs_then_ret (qs_then_ret ?_)))))))))
      refine fin2 (.inr rfl) rfl rfl rfl ?_
      obtain ⟨q1, q2⟩ := openJ_e (D := D) (f := base) (by omega) hE1 (replR_b hn h104 (by omega) h3).symm h3
      exact ⟨_, rfl, .inr ⟨by rw [q1]; exact h3, by rw [q1], by rw [q2]; exact hS12.pick [0, 4] rfl⟩⟩
     have h3 := Decidable.not_not.1 h13
     have hz := readS_few hIv (base + 1) 0 n
     refine wc_skip (qs_seq (wc_seq (wc_region (wl_move rfl rfl ?_))))
     have hC14 := hS12.split [] [false, false, false, false, false] rfl; dsimp only [selF, pickA, nthA, List.cons_append, List.nil_append] at hC14
     refine wl_call cal_69 rfl (r5read_sp hC14 (ReadS D (base + 1) 0 n) hz) rfl ?_
     rintro e w14 ⟨_, rfl, lv9, rfl, hS14⟩; refine ⟨_, rfl, ?_⟩
     replace hS14 := hS14.join rfl; dsimp only [List.dropLast, List.cons_append, List.nil_append] at hS14; clear hC14
     clear hS12
     refine wl_move rfl rfl (wl_extract rfl rfl rfl (wl_extract rfl rfl rfl (wl_assign rfl rfl (wl_assign rfl rfl (wl_nil (qs_seq ?_))))))
     refine wc_sub (L' := [(16, _), (15, _), (14, _), (8, _), (5, _), (4, _), (0, _), (1, _)]) (.cons rfl (.cons rfl (.cons rfl (.cons rfl (.cons rfl (.cons rfl (.cons rfl (.cons rfl .nil)))))))) ?_
     refine wc_seq (wc_seq (wc_region (wl_move rfl rfl ?_)))
     refine wl_not rfl rfl ?_
     refine wl_nil (qs_seq ?_)
     refine wc_cond rfl (fun h15 => ?_) (fun h15 => ?_)
     ·have hok : okJ (ReadS D (base + 1) 0 n) = false := by simpa using h15
      refine wc_seq (wc_region (wl_assign rfl rfl (wl_assign rfl rfl (wl_nil (qs_seq (wc_ret (qs_then_ret (qs_then_ret ?_))))))))
      refine fin2 (.inr rfl) rfl rfl rfl ?_
      obtain ⟨q1, q2⟩ := openJ_e (D := D) (f := base) (by omega) hE1 (replR_c hn h104 (by omega) h3 hok).symm (show (2 : Int) ≠ 0 by decide)
      exact ⟨_, rfl, .inr ⟨by rw [q1]; exact (show (2 : Int) ≠ 0 by decide), by rw [q1], by rw [q2]; exact hS14.pick [1, 5] rfl⟩⟩
     have hok : okJ (ReadS D (base + 1) 0 n) = true := by simpa using h15
     have hrr := (right_mem (okJ_right hok)).2
     have hraw9 := raw_fit (ReadS D (base + 1) 0 n)
     refine wc_skip (qs_seq (wc_seq (wc_region (wl_move rfl rfl (wl_move rfl rfl ?_)))))
     have hC16 := hS14.split [4, 1] [false, true, false, false, true, false] rfl; dsimp only [selF, pickA, nthA, List.cons_append, List.nil_append] at hC16
     refine wl_call cal_70 rfl (r5home_sp hC16 (Ent.starL (ent_row (C := jbC) (l := rawJ (ReadS D (base + 1) 0 n)) (by omega)) 0 rfl) hrr) rfl ?_
     rintro e w16 ⟨_, rfl, rfl, hS16⟩; refine ⟨_, rfl, ?_⟩
     replace hS16 := hS16.join rfl; dsimp only [List.dropLast, List.cons_append, List.nil_append] at hS16; clear hC16
     clear hS14
     refine wl_assign rfl rfl (wl_nil (qs_seq ?_))
     refine wc_sub (L' := [(14, _), (8, _), (5, _), (4, _), (0, _), (1, _)]) (.cons rfl (.cons rfl (.cons rfl (.cons rfl (.cons rfl (.cons rfl .nil)))))) ?_
     refine wc_seq (wc_seq (wc_region (wl_move rfl rfl ?_)))
     refine wl_eql rfl rfl rfl ?_
     refine wl_nil (qs_seq ?_)
     refine wc_condD rfl (fun h17 => ?_) (fun h17 => ?_)
     ·have h5 := h17
      refine wc_region (wl_move rfl rfl ?_)
      have hC18 := hS16.split [0, 1, 4] [true, true, false, false, true, false] rfl; dsimp only [selF, pickA, nthA, List.cons_append, List.nil_append] at hC18
      refine wl_call cal_71 rfl (r5note_sp hC18 hCok.1 0 in0) rfl ?_
      rintro e w18 ⟨_, rfl, rfl, hS18⟩; refine ⟨_, rfl, ?_⟩
      replace hS18 := hS18.join rfl; dsimp only [List.dropLast, List.cons_append, List.nil_append] at hS18; clear hC18
      clear hS16
      refine wl_assign rfl rfl (wl_nil (qs_seq (wc_seq (wc_region (wl_move rfl rfl ?_)))))
      refine wl_neq rfl rfl rfl ?_
      refine wl_nil (qs_seq ?_)
      refine wc_sub (L' := [(85, _), (14, _), (8, _), (5, _), (4, _), (0, _), (1, _)]) (.cons rfl (.cons rfl (.cons rfl (.cons rfl (.cons rfl (.cons rfl (.cons rfl .nil))))))) ?_
      refine wc_condD rfl (fun h19 => ?_) (fun h19 => ?_)
      ·have h6 := h19
       refine wc_seq (wc_region (wl_move rfl rfl (wl_assign rfl rfl (wl_assign rfl rfl (wl_nil (qs_seq (wc_ret (qs_then_ret ?_))))))))
       refine fin2 (.inr rfl) rfl rfl rfl ?_
       obtain ⟨q1, q2⟩ := openJ_e (D := D) (f := base) (by omega) hE1 ((replR_d hn h104 (by omega) h3 hok).trans (end_b h5)).symm h6
       exact ⟨_, rfl, .inr ⟨by rw [q1]; exact h6, by rw [q1], by rw [q2]; exact hS18.pick [1, 5] rfl⟩⟩
      have h6 := Decidable.not_not.1 h19
      refine wc_skip ?_
      exact qs_mid (.cons rfl (.cons rfl (.cons rfl .nil))) ⟨(noteR (homeR D base (rawJ (ReadS D (base + 1) 0 n))).2 (openC D (base + 2)) 0), rfl, hS18.pick [0, 1, 2, 5] rfl, ((replR_d hn h104 (by omega) h3 hok).trans (end_b h5)).symm, h6⟩
     have h5 := h17
     refine wc_skip (qs_seq (wc_seq (wc_region (wl_move rfl rfl ?_))))
     refine wl_neq rfl rfl rfl ?_
     refine wl_nil (qs_seq ?_)
     refine wc_condD rfl (fun h20 => ?_) (fun h20 => ?_)
     ·have h6 := h20
      refine wc_seq (wc_region (wl_move rfl rfl (wl_assign rfl rfl (wl_assign rfl rfl (wl_nil (qs_seq ?_))))))
      refine wc_sub (L' := [(5, _), (4, _), (8, _), (0, _), (1, _)]) (.cons rfl (.cons rfl (.cons rfl (.cons rfl (.cons rfl .nil))))) ?_
      refine wc_ret (qs_then_ret ?_)
      refine fin2 (.inr rfl) rfl rfl rfl ?_
      obtain ⟨q1, q2⟩ := openJ_e (D := D) (f := base) (by omega) hE1 ((replR_d hn h104 (by omega) h3 hok).trans (end_a h5)).symm h5
      exact ⟨_, rfl, .inr ⟨by rw [q1]; exact h5, by rw [q1], by rw [q2]; exact hS16.pick [1, 5] rfl⟩⟩
     exact absurd (Decidable.not_not.1 h20) h5
    refine wc_skip ?_
    exact qs_mid (.cons rfl (.cons rfl (.cons rfl .nil))) ⟨⟨0, D, (openC D (base + 2))⟩, rfl, hS9.pick [2, 3, 1, 4] rfl, (replR_a hn (.inr (by omega))).symm, rfl⟩
   have h104 : encN n ≠ (openC D (base + 2)).val := h10
   refine wl_unwanted rfl rfl (decide_eq_false h10) rfl ?_
   refine wl_unwanted rfl rfl (decide_eq_false h10) rfl ?_
   refine wl_pickF rfl (decide_eq_false h10) rfl rfl ?_
   refine wl_nil (qs_seq ?_)
   refine wc_sub (L' := [(58, _), (12, _), (8, _), (5, _), (4, _), (0, _), (1, _)]) (.cons rfl (.cons rfl (.cons rfl (.cons rfl (.cons rfl (.cons rfl (.cons rfl .nil))))))) ?_
   refine wc_condF rfl ?_
   refine wc_skip ?_
   exact qs_mid (.cons rfl (.cons rfl (.cons rfl .nil))) ⟨⟨0, D, (openC D (base + 2))⟩, rfl, hS9.pick [2, 3, 1, 4] rfl, (replR_a hn (.inl h104)).symm, rfl⟩
  rintro _ w8 ⟨R, rfl, hS8, hR, hRe⟩
  refine wc_seq ?_
  have hIr := rT_inv hS8 1 rfl
  obtain ⟨hRE, hRS⟩ := read_len (D := R.D) (f := base)
  have hsz := hIr.now base
  have hRC : CokJ R.C := by rw [hR]; exact replR_cok hCok
  refine wc_region (wl_move rfl rfl (wl_move rfl rfl (wl_move rfl rfl (wl_move rfl rfl ?_))))
  have hC21 := hS8.split [1] [false, true, false, false] rfl; dsimp only [selF, pickA, nthA, List.cons_append, List.nil_append] at hC21
  refine wl_call cal_34 rfl (sizeRT hC21 base) rfl ?_
  rintro e w21 ⟨_, rfl, rfl, hS21⟩; refine ⟨_, rfl, ?_⟩
  replace hS21 := hS21.join rfl; dsimp only [List.dropLast, List.cons_append, List.nil_append] at hS21; clear hC21
  clear hS8
  have hC22 := hS21.split [0] [true, false, false, false] rfl; dsimp only [selF, pickA, nthA, List.cons_append, List.nil_append] at hC22
  refine wl_call cal_33 rfl (readRT hC22 base 0 ((R.D.F base).1.length : Int)) rfl ?_
  rintro e w22 ⟨_, rfl, rfl, hS22⟩; refine ⟨_, rfl, ?_⟩
  replace hS22 := hS22.join rfl; dsimp only [List.dropLast, List.cons_append, List.nil_append] at hS22; clear hC22
  clear hS21
  refine wl_move rfl rfl (wl_extract rfl rfl rfl (wl_extract rfl rfl rfl (wl_assign rfl rfl (wl_assign rfl rfl (wl_nil (qs_seq ?_))))))
  refine wc_sub (L' := [(18, _), (17, _), (8, _)]) (.cons rfl (.cons rfl (.cons rfl .nil))) ?_
  refine wc_seq (wc_seq (wc_region (wl_move rfl rfl ?_)))
  refine wl_neq rfl rfl rfl ?_
  refine wl_nil (qs_seq ?_)
  refine wc_condD rfl (fun h23 => ?_) (fun h23 => ?_)
  ·have hm : mayE R.D base ≠ 0 := by rw [← hRE]; exact h23
   refine wc_seq (wc_region (wl_move rfl rfl (wl_assign rfl rfl (wl_assign rfl rfl (wl_nil (qs_seq (wc_ret (qs_then_ret ?_))))))))
   refine fin2 (.inr rfl) rfl rfl rfl ?_
   rw [hRE]
   obtain ⟨q1, q2⟩ := openJ_f (D := D) (f := base) (by omega) hE1 hR hRe hm
   exact ⟨_, rfl, .inr ⟨by rw [q1]; exact hm, by rw [q1], by rw [q2]; exact hS22.pick [0, 3] rfl⟩⟩
  have hm0 : mayE R.D base = 0 := by rw [← hRE]; exact Decidable.not_not.1 h23
  rw [hRS hm0]
  obtain ⟨s, hs⟩ : ∃ s, s = (R.D.F base).1 := ⟨_, rfl⟩
  rw [← hs] at hsz ⊢
  refine wc_skip (qs_seq (wc_seq (wc_seq (wc_region (wl_assign rfl rfl (wl_nil (qs_seq (wc_block ?_))))))))
  have hSn := hS22.row_nil jbC
  refine wc_loop (fun K0 E0 W0 => ∃ (n : Nat) (lv : Value), K0 = 2048 - n ∧ E0 = [(8, ptrV kp 0), (17, strV s), (19, intV (n : Int))] ∧ Sat W0 [blkT kp (rrV rp base cp lv false), rT rp R.D, blkT cp (cellV rp R.C), rowT jbC lv (listN (loadB s) n), F] ∧ (n ≤ 2048)) (L0 := [(8, _), (17, _), (19, _)]) (2048 - 0) (.cons rfl (.cons rfl (.cons rfl .nil))) ⟨0, _, rfl, rfl, hSn.pick [2, 1, 3, 0, 4] rfl, by omega⟩ ?_
  rintro _ _ w24 ⟨n, lv, rfl, rfl, hS24, hn2⟩
  have h1lv : lv.oneCell' = true := hS24.own_one 3 rfl
  have hll := listN_len (loadB s) n
  refine wc_seq (wc_seq (wc_region (wl_move rfl rfl ?_)))
  refine wl_lss rfl rfl rfl ?_
  refine wl_move rfl rfl ?_
  refine wl_splitD 101 rfl (fun h25 => ?_) (fun h25 => ?_)
  ·refine wl_guard rfl rfl (decide_eq_true h25) ?_
   refine wl_move rfl rfl ?_
   refine wl_guard rfl rfl (decide_eq_true h25) ?_
   refine wl_mul rfl rfl (by omega) (by omega) rfl ?_
   refine wl_guard rfl rfl (decide_eq_true h25) ?_
   refine wl_move rfl rfl ?_
   refine wl_guard rfl rfl (decide_eq_true h25) ?_
   refine wl_lenS Tryz.underlying9 rfl rfl ?_
   refine wl_guard rfl rfl (decide_eq_true h25) ?_
   refine wl_lss rfl rfl rfl ?_
   refine wl_pickT rfl (decide_eq_true h25) rfl rfl ?_
   refine wl_nil (qs_seq ?_)
   refine wc_sub (L' := [(107, _), (8, _), (17, _), (19, _)]) (.cons rfl (.cons rfl (.cons rfl (.cons rfl .nil)))) ?_
   refine wc_condD rfl (fun h26 => ?_) (fun h26 => ?_)
   ·obtain ⟨c, hc⟩ : ∃ c, s[128 * n]? = some c := ⟨_, List.getElem?_eq_getElem (by omega)⟩
    have hcu := u8_lt c
    refine wc_skip (qs_seq (wc_seq (wc_block (wc_seq (wc_region (wl_move rfl rfl (wl_move rfl rfl ?_)))))))
    refine wl_mul rfl rfl (by omega) (by omega) rfl ?_
    refine wl_indexS (128 * n) Tryz.underlying9 rfl rfl (by omega) hc rfl ?_
    refine wl_convU8 Tryz.underlying5 Tryz.underlying3 rfl rfl ?_
    refine wl_assign rfl rfl (wl_nil (qs_seq (wc_seq (wc_region (wl_move rfl rfl ?_)))))
    refine wl_gtr rfl rfl rfl ?_
    refine wl_move rfl rfl ?_
    refine wl_splitD 117 rfl (fun h27 => ?_) (fun h27 => ?_)
    ·refine wl_guard rfl rfl (decide_eq_true h27) ?_
     refine wl_move rfl rfl ?_
     refine wl_guard rfl rfl (decide_eq_true h27) ?_
     refine wl_leq rfl rfl rfl ?_
     refine wl_pickT rfl (decide_eq_true h27) rfl rfl ?_
     refine wl_move rfl rfl ?_
     refine wl_splitD 121 rfl (fun h28 => ?_) (fun h28 => ?_)
     ·refine wl_guard rfl rfl (decide_eq_true h28) ?_
      refine wl_move rfl rfl ?_
      refine wl_guard rfl rfl (decide_eq_true h28) ?_
      refine wl_mul rfl rfl (by omega) (by omega) rfl ?_
      refine wl_guard rfl rfl (decide_eq_true h28) ?_
      refine wl_add rfl rfl (by omega) (by omega) rfl ?_
      refine wl_guard rfl rfl (decide_eq_true h28) ?_
      refine wl_move rfl rfl ?_
      refine wl_guard rfl rfl (decide_eq_true h28) ?_
      refine wl_add rfl rfl (by omega) (by omega) rfl ?_
      refine wl_guard rfl rfl (decide_eq_true h28) ?_
      refine wl_move rfl rfl ?_
      refine wl_guard rfl rfl (decide_eq_true h28) ?_
      refine wl_lenS Tryz.underlying9 rfl rfl ?_
      refine wl_guard rfl rfl (decide_eq_true h28) ?_
      refine wl_leq rfl rfl rfl ?_
      refine wl_pickT rfl (decide_eq_true h28) rfl rfl ?_
      refine wl_nil (qs_seq ?_)
      refine wc_sub (L' := [(130, _), (20, _), (8, _), (17, _), (19, _)]) (.cons rfl (.cons rfl (.cons rfl (.cons rfl (.cons rfl .nil))))) ?_
      refine wc_condD rfl (fun h29 => ?_) (fun h29 => ?_)
      ·have hS30 := hS24.drew
       refine wc_draw [0, 1, 2, 3, 4, 5, 6, 7, 8, 9, 10, 11, 12, 13, 14, 15, 16, 17, 18, 19, 20, 21] [17, 18, 21] mix (by kernel_rfl) ?_
       refine vc_p rfl rfl rfl (fun _ => (ev_move rfl)) ?_
       refine vc_p rfl rfl rfl (fun _ => (ev_move rfl)) ?_
       refine vc_p rfl rfl rfl (fun _ => (ev_nilCheck rfl)) ?_
       refine vc_p rfl rfl rfl (fun _ => (ev_fieldAddr rfl fo_58_3)) ?_
       refine vc_q rfl rfl rfl (ev_load rfl ag_32 (by first | assumption | exact hS30.cell 0 rfl rfl | exact hS30.cell 2 rfl rfl)) ?_
       refine vc_p rfl rfl rfl (fun _ => (ev_move rfl)) ?_
       refine vc_p rfl rfl rfl (fun _ => (ev_move rfl)) ?_
       refine vc_p rfl rfl rfl (fun _ => (ev_move rfl)) ?_
       refine vc_p rfl rfl rfl (fun _ => (ev_mul rfl rfl (by omega) (by omega))) ?_
       refine vc_p rfl rfl rfl (fun _ => (ev_add rfl rfl (by omega) (by omega))) ?_
       refine vc_p rfl rfl rfl (fun _ => (ev_move rfl)) ?_
       refine vc_p rfl rfl rfl (fun _ => (ev_mul rfl rfl (by omega) (by omega))) ?_
       refine vc_p rfl rfl rfl (fun _ => (ev_add rfl rfl (by omega) (by omega))) ?_
       refine vc_p rfl rfl rfl (fun _ => (ev_move rfl)) ?_
       refine vc_p rfl rfl rfl (fun _ => (ev_add rfl rfl (by omega) (by omega))) ?_
       refine vc_p rfl rfl rfl (fun _ => (ev_sliceS (128 * n + 64) (128 * n + 64 + c.toNat) Tryz.underlying9 rfl (bndS (128 * n + 64) _ rfl (by omega)) (bndS (128 * n + 64 + c.toNat) _ rfl (by omega)) (by omega) (by omega))) ?_
       refine vc_p rfl rfl rfl (fun _ => (ev_buildS rfl pl_34_0_1 asz_34 zr_34 rfl)) ?_
       refine vc_s rfl rfl rfl rfl rfl rfl ?_
       refine wl_rowBuild jbC [⟨(n : Int), (s.take (128 * n + 64 + c.toNat)).drop (128 * n + 64)⟩] hS30 rfl Tryz.underlying32 ifz_34 rfl rfl rfl rfl (by first | rfl | simp [RowC.cells, fillL, splice]) rfl ?_
       intro b31 w31 hS31
       clear hS30
       refine vc_e (.cons (.inl ⟨rfl, (ev_load rfl ag_32 (by first | assumption | exact hS31.cell 1 rfl rfl | exact hS31.cell 3 rfl rfl))⟩) .nil) ?_
       refine vc_s rfl rfl rfl rfl rfl rfl ?_
       refine wl_rowApp jbC 4 hS31 rfl rfl rfl (hS31.rd 0 rfl (by simp)) Tryz.underlying32 Tryz.underlying32 (by intro k hk; cases hk) ifo_34 rfl (by simp only [List.length_cons, List.length_nil]; omega) rfl (by simp only [List.length_cons, List.length_nil]; omega) ?_
       intro v32 w32 hS32; dsimp only [List.set] at hS32
       clear hS31
       have h1v32 : v32.oneCell' = true := hS32.own_one 4 rfl
       refine vc_e (.skip (by kernel_rfl) .nil) ?_
       refine vc_p rfl rfl rfl (fun _ => (ev_nilCheck rfl)) ?_
       refine vc_p rfl rfl rfl (fun _ => (ev_fieldAddr rfl fo_58_3)) ?_
       refine vc_s rfl rfl rfl rfl rfl rfl ?_
       refine wl_store hS32 rfl rfl sz_32 (by first | assumption | exact hS32.own_one 4 rfl) (i := 1) rfl (by first | decide | exact Nat.le_of_ble_eq_true rfl | (simp; done) | omega) ?_
       intro w33 hS33; dsimp only [List.set] at hS33
       clear hS32
       refine vc_e0 (.skip (by kernel_rfl) .nil) ?_
       refine VC.nil (qs_block_normal (qs_seq ?_))
       refine wc_sub (L' := [(8, _), (17, _), (19, _)]) (.cons rfl (.cons rfl (.cons rfl .nil))) ?_
       refine wc_region (wl_move rfl rfl ?_)
       refine wl_add rfl rfl (by omega) (by omega) rfl ?_
       refine wl_assign rfl rfl (wl_nil ?_)
       exact qs_round (L1 := [(8, _), (17, _), (19, intV ((n + 1 : Nat) : Int))]) (.cons rfl (.cons rfl (.cons rfl .nil))) (k1 := 2048 - (n + 1)) (by omega) ⟨n + 1, _, rfl, rfl, by have hy := blk_yes hc (by omega) (by omega) (by omega); rw [listN_succ, load_blk s (by omega), if_neg hy.2, hy.1]; exact hS33.pick [1, 2, 3, 4, 5] rfl, by omega⟩
      refine wc_skip (qs_block_normal (qs_seq (wc_region (wl_move rfl rfl ?_))))
      refine wl_add rfl rfl (by omega) (by omega) rfl ?_
      refine wl_assign rfl rfl (wl_nil ?_)
      exact qs_round (L1 := [(8, _), (17, _), (19, intV ((n + 1 : Nat) : Int))]) (.cons rfl (.cons rfl (.cons rfl .nil))) (k1 := 2048 - (n + 1)) (by omega) ⟨n + 1, _, rfl, rfl, by rw [listN_succ, load_blk s (by omega), if_pos (blk_no hc (by omega)), List.append_nil]; exact hS24.pick [0, 1, 2, 3, 4] rfl, by omega⟩
     refine wl_unwanted rfl rfl (decide_eq_false h28) rfl ?_
     refine wl_unwanted rfl rfl (decide_eq_false h28) rfl ?_
     refine wl_unwanted rfl rfl (decide_eq_false h28) rfl ?_
     refine wl_unwanted rfl rfl (decide_eq_false h28) rfl ?_
     refine wl_unwanted rfl rfl (decide_eq_false h28) rfl ?_
     refine wl_unwanted rfl rfl (decide_eq_false h28) rfl ?_
     refine wl_unwanted rfl rfl (decide_eq_false h28) rfl ?_
     refine wl_unwanted rfl rfl (decide_eq_false h28) rfl ?_
     refine wl_pickF rfl (decide_eq_false h28) rfl rfl ?_
     refine wl_nil (qs_seq ?_)
     refine wc_sub (L' := [(130, _), (20, _), (8, _), (17, _), (19, _)]) (.cons rfl (.cons rfl (.cons rfl (.cons rfl (.cons rfl .nil))))) ?_
     refine wc_condF rfl ?_
     refine wc_skip (qs_block_normal (qs_seq (wc_region (wl_move rfl rfl ?_))))
     refine wl_add rfl rfl (by omega) (by omega) rfl ?_
     refine wl_assign rfl rfl (wl_nil ?_)
     exact qs_round (L1 := [(8, _), (17, _), (19, intV ((n + 1 : Nat) : Int))]) (.cons rfl (.cons rfl (.cons rfl .nil))) (k1 := 2048 - (n + 1)) (by omega) ⟨n + 1, _, rfl, rfl, by rw [listN_succ, load_blk s (by omega), if_pos (blk_no hc (by omega)), List.append_nil]; exact hS24.pick [0, 1, 2, 3, 4] rfl, by omega⟩
    refine wl_unwanted rfl rfl (decide_eq_false h27) rfl ?_
    refine wl_unwanted rfl rfl (decide_eq_false h27) rfl ?_
    refine wl_pickF rfl (decide_eq_false h27) rfl rfl ?_
    refine wl_move rfl rfl ?_
    refine wl_unwanted rfl rfl rfl rfl ?_
    refine wl_unwanted rfl rfl rfl rfl ?_
    refine wl_unwanted rfl rfl rfl rfl ?_
    refine wl_unwanted rfl rfl rfl rfl ?_
    refine wl_unwanted rfl rfl rfl rfl ?_
    refine wl_unwanted rfl rfl rfl rfl ?_
    refine wl_unwanted rfl rfl rfl rfl ?_
    refine wl_unwanted rfl rfl rfl rfl ?_
    refine wl_pickF rfl rfl rfl rfl ?_
    refine wl_nil (qs_seq ?_)
    refine wc_sub (L' := [(130, _), (20, _), (8, _), (17, _), (19, _)]) (.cons rfl (.cons rfl (.cons rfl (.cons rfl (.cons rfl .nil))))) ?_
    refine wc_condF rfl ?_
    refine wc_skip (qs_block_normal (qs_seq (wc_region (wl_move rfl rfl ?_))))
    refine wl_add rfl rfl (by omega) (by omega) rfl ?_
    refine wl_assign rfl rfl (wl_nil ?_)
    exact qs_round (L1 := [(8, _), (17, _), (19, intV ((n + 1 : Nat) : Int))]) (.cons rfl (.cons rfl (.cons rfl .nil))) (k1 := 2048 - (n + 1)) (by omega) ⟨n + 1, _, rfl, rfl, by rw [listN_succ, load_blk s (by omega), if_pos (blk_no hc (by omega)), List.append_nil]; exact hS24.pick [0, 1, 2, 3, 4] rfl, by omega⟩
   refine wc_exit (qs_then_exit (qs_then_exit (qs_block_exit (qs_seq (wc_seq (wc_region (wl_move rfl rfl (wl_assign rfl rfl (wl_assign rfl rfl (wl_nil (qs_seq (wc_ret ?_))))))))))))
   refine fin2 (.inr rfl) rfl rfl rfl ?_
   have q := openJ_g (D := D) (f := base) (by omega) hE1 hR hRe hm0
   have hfin : listN (loadB s) n = listB (loadB s) := listN_stop (by omega) fun m h1 h2 => by rw [load_blk s h2]; exact blk_over (by omega)
   exact ⟨_, rfl, .inl ⟨by rw [q], _, cp, lv, rfl, by rw [q]; exact ⟨hRC, hb, loadB_ran _⟩, by rw [q, ← hs, ← hfin]; exact hS24.pick [0, 2, 3, 1, 4] rfl⟩⟩
  refine wl_unwanted rfl rfl (decide_eq_false h25) rfl ?_
  refine wl_unwanted rfl rfl (decide_eq_false h25) rfl ?_
  refine wl_unwanted rfl rfl (decide_eq_false h25) rfl ?_
  refine wl_unwanted rfl rfl (decide_eq_false h25) rfl ?_
  refine wl_unwanted rfl rfl (decide_eq_false h25) rfl ?_
  refine wl_pickF rfl (decide_eq_false h25) rfl rfl ?_
  refine wl_nil (qs_seq ?_)
  refine wc_sub (L' := [(107, _), (8, _), (17, _), (19, _)]) (.cons rfl (.cons rfl (.cons rfl (.cons rfl .nil)))) ?_
  refine wc_condF rfl ?_
  refine wc_exit (qs_then_exit (qs_then_exit (qs_block_exit (qs_seq (wc_seq (wc_region (wl_move rfl rfl (wl_assign rfl rfl (wl_assign rfl rfl (wl_nil (qs_seq (wc_ret ?_))))))))))))
  refine fin2 (.inr rfl) rfl rfl rfl ?_
  have q := openJ_g (D := D) (f := base) (by omega) hE1 hR hRe hm0
  have hfin : listN (loadB s) n = listB (loadB s) := listN_stop (by omega) fun m h1 h2 => by rw [load_blk s h2]; exact blk_over (by omega)
  exact ⟨_, rfl, .inl ⟨by rw [q], _, cp, lv, rfl, by rw [q]; exact ⟨hRC, hb, loadB_ran _⟩, by rw [q, ← hs, ← hfin]; exact hS24.pick [0, 2, 3, 1, 4] rfl⟩⟩
 refine ⟨_, rfl, ?_⟩
 replace hS3 := hS3.join rfl; dsimp only [List.dropLast, List.cons_append, List.nil_append] at hS3; clear hC3
 refine wl_move rfl rfl (wl_extract rfl rfl rfl (wl_extract rfl rfl rfl (wl_assign rfl rfl (wl_assign rfl rfl (wl_nil (qs_seq ?_))))))
 refine wc_sub (L' := [(7, _), (6, _), (5, _), (4, _), (0, _), (1, _)]) (.cons rfl (.cons rfl (.cons rfl (.cons rfl (.cons rfl (.cons rfl .nil)))))) ?_
 refine wc_seq (wc_seq (wc_region (wl_move rfl rfl ?_)))
 refine wl_neq rfl rfl rfl ?_
 refine wl_nil (qs_seq ?_)
 refine wc_condD rfl (fun h34 => ?_) (fun h34 => ?_)
 ·refine wc_seq (wc_region (wl_move rfl rfl (wl_assign rfl rfl (wl_assign rfl rfl (wl_nil (qs_seq (wc_ret (qs_then_ret ?_))))))))
  refine fin2 (.inr rfl) rfl rfl rfl ?_
  obtain ⟨q1, q2⟩ := openJ_b (D := D) (f := base) (by omega) hE1
  exact ⟨_, rfl, .inr ⟨by rw [q1]; exact hE1, by rw [q1], by rw [q2]; exact hS3.pick [0, 1] rfl⟩⟩
 exact absurd h34 (by simpa using hE1)
end Go.Proofs.YtfmkodmmbgibgaaGreatDoor
