/- sheets: New, Copy -/
import Derived.Test.YtnicmcdeoimhlaaGreatDl
namespace Go.Proofs.YtnicmcdeoimhlaaGreat
open Go.RowKit M
set_option linter.unusedVariables false
set_option maxRecDepth 100000 in
theorem cloneCk_sp {w : World} {F : Th} (hS : Sat w [F]) {lv : Value} {l : List CkD} (hL : Ent F (RdL ckC lv l)) (hln : l.length ≤ 1000000) :
    Calls Tryz.prog 87 #[lv] w (Ret fun v w' => Sat w' [rowT ckC v l, F]) := by
 obtain ⟨ao, cap, rfl, hmax⟩ := (hL.sat hS 0 rfl).shape
 refine calls_enter Tryz.func87 rfl Tryz.ntmps87 rfl ?_
 refine wc_seq (wc_region (wl_assign rfl rfl (wl_nil (qs_seq (wc_seq (wc_seq (wc_region (wl_move rfl rfl ?_))))))))
 refine wl_eqlSlNil Tryz.underlying106 rfl rfl rfl ?_
 refine wl_nil (qs_seq ?_)
 refine wc_cond rfl (fun h1 => ?_) (fun h1 => ?_)
 ·refine wc_seq (wc_region (wl_assign rfl rfl (wl_nil (qs_seq (wc_ret (qs_then_ret ?_))))))
  refine fin1 (.inr rfl) rfl rfl ?_
  obtain rfl := Option.isNone_iff_eq_none.1 (by assumption : ao.isNone = true)
  have hnl : l = [] := (hL.sat hS 0 rfl).isNil
  exact ⟨_, rfl, by rw [hnl]; exact (hS.pick [0] rfl).row_nil ckC⟩
 refine wc_skip (qs_seq (wc_seq (wc_region ?_)))
 refine wl_rowBuild ckC [] hS rfl Tryz.underlying106 ifz_121 rfl rfl rfl rfl (by first | rfl | simp [RowC.cells, fillL, splice]) rfl ?_
 intro b2 w2 hS2
 refine wl_move rfl rfl ?_
 refine wl_rowApp ckC 0 hS2 rfl rfl rfl (hL.sat hS2 1 rfl) Tryz.underlying106 Tryz.underlying106 (by intro k hk; cases hk) ifo_121 rfl (by simp only [List.length_nil]; omega) rfl (by simp only [List.length_nil]; omega) ?_
 intro v3 w3 hS3; dsimp only [List.set] at hS3
 clear hS2
 have h1v3 : v3.oneCell' = true := hS3.own_one 0 rfl
 refine wl_assign rfl rfl (wl_nil (qs_seq (wc_ret ?_)))
 refine fin1 (.inr rfl) rfl rfl ?_
 exact ⟨_, rfl, hS3.pick [0, 1] rfl⟩
theorem mc1 : (Tryz.f84.name == "runtime.NumGoroutine") = false := by kernel_rfl
theorem mc2 : Tryz.f84.body.isNone = true := by kernel_rfl
theorem mc3 : Extern.findNext Tryz.f84 = none := by kernel_rfl
theorem mc4 : Extern.find Tryz.f84 = some Extern.MapsClone.clone := by kernel_rfl
theorem cloneMI_sp {w : World} {F : Th} {b : Nat} {g : Int → Option Value} (hS : Sat w [mapT intK b g, F]) :
    Calls Tryz.prog 54 #[.map (some b)] w (Ret fun v w' => ∃ b', v = .map (some b') ∧ Sat w' [mapT intK b' g, mapT intK b g, F]) := by
 refine calls_enter Tryz.func54 rfl Tryz.ntmps54 rfl ?_
 refine wc_seq (wc_region (wl_assign rfl rfl (wl_nil (qs_seq (wc_seq (wc_seq (wc_region (wl_move rfl rfl ?_))))))))
 refine wl_eqlMapNil Tryz.underlying57 rfl rfl rfl ?_
 refine wl_nil (qs_seq ?_)
 refine wc_condF rfl ?_
 refine wc_skip (qs_seq (wc_seq (wc_region (wl_move rfl rfl ?_))))
 refine wl_makeIface nif_57 rfl rfl ?_
 refine wl_mapsClone 0 hS Tryz.func84 mc1 mc2 mc3 mc4 rfl rfl rfl ?_
 intro b9 w9 hS9
 refine wl_typeAssert nif_57 rfl rfl ?_
 refine wl_assign rfl rfl (wl_nil (qs_seq (wc_ret ?_)))
 refine fin1 (.inr rfl) rfl rfl ?_
 exact ⟨_, rfl, _, rfl, hS9⟩
theorem cloneMA_sp {w : World} {F : Th} {b : Nat} {g : Int → Option Value} (hS : Sat w [mapT intK b g, F]) :
    Calls Tryz.prog 53 #[.map (some b)] w (Ret fun v w' => ∃ b', v = .map (some b') ∧ Sat w' [mapT intK b' g, mapT intK b g, F]) := by
 refine calls_enter Tryz.func53 rfl Tryz.ntmps53 rfl ?_
 refine wc_seq (wc_region (wl_assign rfl rfl (wl_nil (qs_seq (wc_seq (wc_seq (wc_region (wl_move rfl rfl ?_))))))))
 refine wl_eqlMapNil Tryz.underlying56 rfl rfl rfl ?_
 refine wl_nil (qs_seq ?_)
 refine wc_condF rfl ?_
 refine wc_skip (qs_seq (wc_seq (wc_region (wl_move rfl rfl ?_))))
 refine wl_makeIface nif_56 rfl rfl ?_
 refine wl_mapsClone 0 hS Tryz.func84 mc1 mc2 mc3 mc4 rfl rfl rfl ?_
 intro b9 w9 hS9
 refine wl_typeAssert nif_56 rfl rfl ?_
 refine wl_assign rfl rfl (wl_nil (qs_seq (wc_ret ?_)))
 refine fin1 (.inr rfl) rfl rfl ?_
 exact ⟨_, rfl, _, rfl, hS9⟩
set_option maxRecDepth 100000 in
set_option maxHeartbeats 1600000 in
theorem ckcopy_sp {w : World} {p : Nat} {ul : List Bool} {F : Th} (hS : Sat w [ckT p ul, F]) :
    Calls Tryz.prog 58 #[ptrV p 0] w (Ret fun v w' => ∃ p2, v = ptrV p2 0 ∧ Sat w' [ckT p2 ul, ckT p ul, F]) := by
 obtain ⟨hd, hS⟩ := hS.ex
 obtain ⟨ob, cap, l, b1, b2, b3, g1, g2, g3, hul, hl4, hh0, hh1, hS⟩ := ckH_open hS
 refine calls_enter Tryz.func58 rfl Tryz.ntmps58 rfl ?_
 refine wc_seq (wc_region (wl_assign rfl rfl (wl_nil (qs_seq (wc_seq ?_)))))
 have hS1 := hS.drew
 refine wc_draw [0, 1, 2, 3, 5, 6, 7, 8, 9, 10, 11, 12, 14, 15, 16, 17, 19, 20, 21, 22, 4, 13, 18, 23, 24, 25, 26] [4, 13, 18, 23, 25] mix (by kernel_rfl) ?_
 refine vc_p rfl rfl rfl (fun _ => (ev_move rfl)) ?_
 refine vc_p rfl rfl rfl (fun _ => (ev_nilCheck rfl)) ?_
 refine vc_p rfl rfl rfl (fun _ => (ev_fieldAddr rfl fo_108_0)) ?_
 refine vc_q rfl rfl rfl (ev_load rfl ag_106 (by first | assumption | exact hS1.cell 0 rfl rfl)) ?_
 refine vc_p rfl rfl rfl (fun _ => (ev_move rfl)) ?_
 refine vc_p rfl rfl rfl (fun _ => (ev_nilCheck rfl)) ?_
 refine vc_p rfl rfl rfl (fun _ => (ev_fieldAddr rfl fo_108_1)) ?_
 refine vc_q rfl rfl rfl (ev_load rfl ag_3 (by first | assumption | exact hS1.cell 0 rfl rfl)) ?_
 refine vc_p rfl rfl rfl (fun _ => (ev_move rfl)) ?_
 refine vc_p rfl rfl rfl (fun _ => (ev_nilCheck rfl)) ?_
 refine vc_p rfl rfl rfl (fun _ => (ev_fieldAddr rfl fo_108_2)) ?_
 refine vc_q rfl rfl rfl (ev_load rfl ag_57 (by first | assumption | exact hS1.cell 0 rfl rfl)) ?_
 refine vc_p rfl rfl rfl (fun _ => (ev_move rfl)) ?_
 refine vc_p rfl rfl rfl (fun _ => (ev_nilCheck rfl)) ?_
 refine vc_p rfl rfl rfl (fun _ => (ev_fieldAddr rfl fo_108_3)) ?_
 refine vc_q rfl rfl rfl (ev_load rfl ag_57 (by first | assumption | exact hS1.cell 0 rfl rfl)) ?_
 refine vc_p rfl rfl rfl (fun _ => (ev_move rfl)) ?_
 refine vc_p rfl rfl rfl (fun _ => (ev_nilCheck rfl)) ?_
 refine vc_p rfl rfl rfl (fun _ => (ev_fieldAddr rfl fo_108_4)) ?_
 refine vc_q rfl rfl rfl (ev_load rfl ag_57 (by first | assumption | exact hS1.cell 0 rfl rfl)) ?_
 refine vc_s rfl rfl rfl rfl rfl rfl ?_
 have hC2 := hS1.split [] [false, false, false, false, false, false] rfl; dsimp only [selF, pickA, nthA, List.cons_append, List.nil_append] at hC2
 refine wl_call cal_87 rfl (cloneCk_sp hC2 (Ent.starL (ent_row (C := ckC) (by omega)) 1 rfl) (by omega)) rfl ?_
 rintro e w2 ⟨_, rfl, hS2⟩; refine ⟨_, rfl, ?_⟩
 replace hS2 := hS2.join rfl; dsimp only [List.dropLast, List.cons_append, List.nil_append] at hS2; clear hC2
 clear hS1
 obtain ⟨ca2, cc2, hcv2, _⟩ := hS2.own_shape 0 rfl
 obtain rfl := hcv2
 refine vc_e (.cons (.inl ⟨rfl, (ev_load rfl ag_57 (by first | assumption | exact hS2.cell 1 rfl rfl))⟩) (.cons (.inl ⟨rfl, (ev_load rfl ag_57 (by first | assumption | exact hS2.cell 1 rfl rfl))⟩) (.cons (.inl ⟨rfl, (ev_load rfl ag_57 (by first | assumption | exact hS2.cell 1 rfl rfl))⟩) (.cons (.inl ⟨rfl, (ev_load rfl ag_3 (by first | assumption | exact hS2.cell 1 rfl rfl))⟩) (.skip (by kernel_rfl) .nil))))) ?_
 refine vc_s rfl rfl rfl rfl rfl rfl ?_
 have hC3 := hS2.split [3] [false, false, false, true, false, false, false] rfl; dsimp only [selF, pickA, nthA, List.cons_append, List.nil_append] at hC3
 refine wl_call cal_54 rfl (cloneMI_sp hC3) rfl ?_
 rintro e w3 ⟨_, rfl, nb1, rfl, hS3⟩; refine ⟨_, rfl, ?_⟩
 replace hS3 := hS3.join rfl; dsimp only [List.dropLast, List.cons_append, List.nil_append] at hS3; clear hC3
 clear hS2
 refine vc_e (.cons (.inl ⟨rfl, (ev_load rfl ag_57 (by first | assumption | exact hS3.cell 3 rfl rfl))⟩) (.cons (.inl ⟨rfl, (ev_load rfl ag_57 (by first | assumption | exact hS3.cell 3 rfl rfl))⟩) (.skip (by kernel_rfl) (.cons (.inl ⟨rfl, (ev_load rfl ag_3 (by first | assumption | exact hS3.cell 3 rfl rfl))⟩) (.skip (by kernel_rfl) .nil))))) ?_
 refine vc_s rfl rfl rfl rfl rfl rfl ?_
 have hC4 := hS3.split [5] [false, false, false, false, false, true, false, false] rfl; dsimp only [selF, pickA, nthA, List.cons_append, List.nil_append] at hC4
 refine wl_call cal_54 rfl (cloneMI_sp hC4) rfl ?_
 rintro e w4 ⟨_, rfl, nb2, rfl, hS4⟩; refine ⟨_, rfl, ?_⟩
 replace hS4 := hS4.join rfl; dsimp only [List.dropLast, List.cons_append, List.nil_append] at hS4; clear hC4
 clear hS3
 refine vc_e (.cons (.inl ⟨rfl, (ev_load rfl ag_57 (by first | assumption | exact hS4.cell 5 rfl rfl))⟩) (.skip (by kernel_rfl) (.skip (by kernel_rfl) (.cons (.inl ⟨rfl, (ev_load rfl ag_3 (by first | assumption | exact hS4.cell 5 rfl rfl))⟩) (.skip (by kernel_rfl) .nil))))) ?_
 refine vc_s rfl rfl rfl rfl rfl rfl ?_
 have hC5 := hS4.split [7] [false, false, false, false, false, false, false, true, false] rfl; dsimp only [selF, pickA, nthA, List.cons_append, List.nil_append] at hC5
 refine wl_call cal_54 rfl (cloneMI_sp hC5) rfl ?_
 rintro e w5 ⟨_, rfl, nb3, rfl, hS5⟩; refine ⟨_, rfl, ?_⟩
 replace hS5 := hS5.join rfl; dsimp only [List.dropLast, List.cons_append, List.nil_append] at hS5; clear hC5
 clear hS4
 refine vc_e (.skip (by kernel_rfl) (.skip (by kernel_rfl) (.skip (by kernel_rfl) (.cons (.inl ⟨rfl, (ev_load rfl ag_3 (by first | assumption | exact hS5.cell 7 rfl rfl))⟩) (.skip (by kernel_rfl) .nil))))) ?_
 refine vc_p rfl rfl rfl (fun _ => (ev_buildS rfl pl_108_0_1_2_3_4 asz_108 zr_108 rfl)) ?_
 refine vc_s rfl rfl rfl rfl rfl rfl ?_
 refine wl_box hS5 rfl rfl rfl ?_
 intro bq wbq hSbq
 clear hS5
 refine vc_e (.skip (by kernel_rfl) (.skip (by kernel_rfl) (.skip (by kernel_rfl) (.skip (by kernel_rfl) (.skip (by kernel_rfl) .nil))))) ?_
 refine vc_p rfl rfl rfl (fun _ => (ev_assign rfl)) ?_
 refine VC.nil (qs_seq ?_)
 refine wc_sub (L' := [(2, _)]) (.cons rfl .nil) ?_
 refine wc_ret ?_
 refine fin1 (.inr rfl) rfl rfl ?_
 have hq := ckH_shut hul hl4 hh0 hh1 (hSbq.pick [8, 9, 6, 4, 2, 0, 7, 5, 3, 1, 10] rfl)
 have hq2 := ckH_shut hul hl4 hh0 hh1 (hq.reorder [1, 2, 3, 4, 5, 0, 6] rfl)
 exact ⟨_, rfl, _, rfl, Sat.ex_intro (f := fun h : Int => ckH _ ul h) hd ((Sat.ex_intro (f := fun h : Int => ckH p ul h) hd (hq2.reorder [1, 0, 2] rfl)).reorder [1, 0, 2] rfl)⟩
set_option maxRecDepth 100000 in
set_option maxHeartbeats 1600000 in
theorem shcopy_sp {w : World} {p : Nat} {S : SS} {F : Th} (hS : Sat w [shT p S, F]) {E : Int → Prop} {N : Nat} (hI : ShI E N S) (hN : N ≤ 800000) :
    Calls Tryz.prog 23 #[ptrV p 0] w (Ret fun v w' => ∃ p2, v = ptrV p2 0 ∧ Sat w' [shT p2 S, shT p S, F]) := by
 obtain ⟨ba, bi, fp, sp, kp, ac, cc, at2, ct, hS⟩ := shT_open hS
 refine calls_enter Tryz.func23 rfl Tryz.ntmps23 rfl ?_
 refine wc_seq (wc_region (wl_assign rfl rfl (wl_nil (qs_seq (wc_seq (wc_region (wl_move rfl rfl (wl_nilCheck rfl rfl ?_))))))))
 refine wl_loadA rfl ag_65 sz_65 (by first | exact hS.blk 0 rfl) (by first | decide | exact Nat.le_of_ble_eq_true rfl | (simp; done) | omega) rfl rfl ?_
 refine wl_alloc hS zr_65 rfl rfl ?_
 intro bq w1 hS1
 first | (refine wl_storeA hS1 rfl rfl sz_65 rfl (by first | rfl | (simp [allOne, Value.oneCell']; done) | assumption | exact hone) (i := 0) rfl (by first | decide | exact Nat.le_of_ble_eq_true rfl | (simp; done) | omega) ?_) | (refine wl_storeA hS1 rfl rfl sz_65 rfl (by first | rfl | (simp [allOne, Value.oneCell']; done) | assumption | exact hone) (i := 1) rfl (by first | decide | exact Nat.le_of_ble_eq_true rfl | (simp; done) | omega) ?_)
 intro w2 hS3; dsimp only [List.set] at hS3
 clear hS1
 refine wl_nil (qs_seq (wc_seq ?_))
 have hS4 := hS3.drew
 refine wc_draw [0, 1, 2, 3, 5, 6, 7, 8, 10, 11, 12, 13, 15, 16, 17, 18, 4, 9, 14, 19, 20, 21, 22, 23, 24, 25, 26, 27] [4, 9, 14, 19, 21, 23, 25, 27] mix (by kernel_rfl) ?_
 refine vc_p rfl rfl rfl (fun _ => (ev_move rfl)) ?_
 refine vc_p rfl rfl rfl (fun _ => (ev_nilCheck rfl)) ?_
 refine vc_p rfl rfl rfl (fun _ => (ev_fieldAddr rfl fo_65_0)) ?_
 refine vc_q rfl rfl rfl (ev_load rfl ag_56 (by first | assumption | exact hS4.cell 0 rfl rfl | exact hS4.cell 1 rfl rfl)) ?_
 refine vc_p rfl rfl rfl (fun _ => (ev_move rfl)) ?_
 refine vc_p rfl rfl rfl (fun _ => (ev_nilCheck rfl)) ?_
 refine vc_p rfl rfl rfl (fun _ => (ev_fieldAddr rfl fo_65_1)) ?_
 refine vc_q rfl rfl rfl (ev_load rfl ag_57 (by first | assumption | exact hS4.cell 0 rfl rfl | exact hS4.cell 1 rfl rfl)) ?_
 refine vc_p rfl rfl rfl (fun _ => (ev_move rfl)) ?_
 refine vc_p rfl rfl rfl (fun _ => (ev_nilCheck rfl)) ?_
 refine vc_p rfl rfl rfl (fun _ => (ev_fieldAddr rfl fo_65_2)) ?_
 refine vc_q rfl rfl rfl (ev_load rfl ag_28 (by first | assumption | exact hS4.cell 0 rfl rfl | exact hS4.cell 1 rfl rfl)) ?_
 refine vc_p rfl rfl rfl (fun _ => (ev_move rfl)) ?_
 refine vc_p rfl rfl rfl (fun _ => (ev_nilCheck rfl)) ?_
 refine vc_p rfl rfl rfl (fun _ => (ev_fieldAddr rfl fo_65_9)) ?_
 refine vc_q rfl rfl rfl (ev_load rfl ag_28 (by first | assumption | exact hS4.cell 0 rfl rfl | exact hS4.cell 1 rfl rfl)) ?_
 refine vc_s rfl rfl rfl rfl rfl rfl ?_
 have hC5 := hS4.split [2] [false, false, true, false, false, false, false, false, false, false] rfl; dsimp only [selF, pickA, nthA, List.cons_append, List.nil_append] at hC5
 refine wl_call cal_53 rfl (cloneMA_sp hC5) rfl ?_
 rintro e w5 ⟨_, rfl, nba, rfl, hS5⟩; refine ⟨_, rfl, ?_⟩
 replace hS5 := hS5.join rfl; dsimp only [List.dropLast, List.cons_append, List.nil_append] at hS5; clear hC5
 clear hS4
 refine vc_e (.cons (.inl ⟨rfl, (ev_load rfl ag_28 (by first | assumption | exact hS5.cell 2 rfl rfl | exact hS5.cell 3 rfl rfl))⟩) (.cons (.inl ⟨rfl, (ev_load rfl ag_28 (by first | assumption | exact hS5.cell 2 rfl rfl | exact hS5.cell 3 rfl rfl))⟩) (.cons (.inl ⟨rfl, (ev_load rfl ag_57 (by first | assumption | exact hS5.cell 2 rfl rfl | exact hS5.cell 3 rfl rfl))⟩) (.skip (by kernel_rfl) .nil)))) ?_
 refine vc_s rfl rfl rfl rfl rfl rfl ?_
 have hC6 := hS5.split [4] [false, false, false, false, true, false, false, false, false, false, false] rfl; dsimp only [selF, pickA, nthA, List.cons_append, List.nil_append] at hC6
 refine wl_call cal_54 rfl (cloneMI_sp hC6) rfl ?_
 rintro e w6 ⟨_, rfl, nbi, rfl, hS6⟩; refine ⟨_, rfl, ?_⟩
 replace hS6 := hS6.join rfl; dsimp only [List.dropLast, List.cons_append, List.nil_append] at hS6; clear hC6
 clear hS5
 refine vc_e (.cons (.inl ⟨rfl, (ev_load rfl ag_28 (by first | assumption | exact hS6.cell 4 rfl rfl | exact hS6.cell 5 rfl rfl))⟩) (.cons (.inl ⟨rfl, (ev_load rfl ag_28 (by first | assumption | exact hS6.cell 4 rfl rfl | exact hS6.cell 5 rfl rfl))⟩) (.skip (by kernel_rfl) (.skip (by kernel_rfl) .nil)))) ?_
 refine vc_s rfl rfl rfl rfl rfl rfl ?_
 have hC7 := hS6.split [] [false, false, false, false, false, false, false, false, false, false, false, false] rfl; dsimp only [selF, pickA, nthA, List.cons_append, List.nil_append] at hC7
 refine wl_call cal_55 rfl (cloneI_sp hC7 (Ent.starL (ent_row (C := inC) (by have := hI.cln; have := hI.tln; omega)) 6 rfl) (by have := hI.cln; have := hI.tln; omega)) rfl ?_
 rintro e w7 ⟨_, rfl, hS7⟩; refine ⟨_, rfl, ?_⟩
 replace hS7 := hS7.join rfl; dsimp only [List.dropLast, List.cons_append, List.nil_append] at hS7; clear hC7
 clear hS6
 obtain ⟨ca7, cc7, hcv7, _⟩ := hS7.own_shape 0 rfl
 obtain rfl := hcv7
 refine vc_e (.cons (.inl ⟨rfl, (ev_load rfl ag_28 (by first | assumption | exact hS7.cell 5 rfl rfl | exact hS7.cell 6 rfl rfl))⟩) (.skip (by kernel_rfl) (.skip (by kernel_rfl) (.skip (by kernel_rfl) .nil)))) ?_
 refine vc_s rfl rfl rfl rfl rfl rfl ?_
 have hC8 := hS7.split [] [false, false, false, false, false, false, false, false, false, false, false, false, false] rfl; dsimp only [selF, pickA, nthA, List.cons_append, List.nil_append] at hC8
 refine wl_call cal_55 rfl (cloneI_sp hC8 (Ent.starL (ent_row (C := inC) (by have := hI.cln; have := hI.tln; omega)) 11 rfl) (by have := hI.cln; have := hI.tln; omega)) rfl ?_
 rintro e w8 ⟨_, rfl, hS8⟩; refine ⟨_, rfl, ?_⟩
 replace hS8 := hS8.join rfl; dsimp only [List.dropLast, List.cons_append, List.nil_append] at hS8; clear hC8
 clear hS7
 obtain ⟨ca8, cc8, hcv8, _⟩ := hS8.own_shape 0 rfl
 obtain rfl := hcv8
 refine vc_e (.skip (by kernel_rfl) (.skip (by kernel_rfl) (.skip (by kernel_rfl) (.skip (by kernel_rfl) .nil)))) ?_
 refine vc_p rfl rfl rfl (fun _ => (ev_fieldAddr rfl fo_65_0)) ?_
 refine vc_s rfl rfl rfl rfl rfl rfl ?_
 first | (refine wl_store hS8 rfl rfl sz_56 (by first | rfl | assumption | exact hS8.own_one 8 rfl | exact hS8.own_one 12 rfl) (i := 6) rfl (by first | decide | exact Nat.le_of_ble_eq_true rfl | (simp; done) | omega) ?_) | (refine wl_store hS8 rfl rfl sz_56 (by first | rfl | assumption | exact hS8.own_one 8 rfl | exact hS8.own_one 12 rfl) (i := 7) rfl (by first | decide | exact Nat.le_of_ble_eq_true rfl | (simp; done) | omega) ?_)
 intro w9 hS10; dsimp only [List.set] at hS10
 clear hS8
 refine vc_e0 (.skip (by kernel_rfl) (.skip (by kernel_rfl) (.skip (by kernel_rfl) (.skip (by kernel_rfl) .nil)))) ?_
 refine vc_p rfl rfl rfl (fun _ => (ev_fieldAddr rfl fo_65_1)) ?_
 refine vc_s rfl rfl rfl rfl rfl rfl ?_
 first | (refine wl_store hS10 rfl rfl sz_57 (by first | rfl | assumption | exact hS10.own_one 8 rfl | exact hS10.own_one 12 rfl) (i := 6) rfl (by first | decide | exact Nat.le_of_ble_eq_true rfl | (simp; done) | omega) ?_) | (refine wl_store hS10 rfl rfl sz_57 (by first | rfl | assumption | exact hS10.own_one 8 rfl | exact hS10.own_one 12 rfl) (i := 7) rfl (by first | decide | exact Nat.le_of_ble_eq_true rfl | (simp; done) | omega) ?_)
 intro w11 hS12; dsimp only [List.set] at hS12
 clear hS10
 refine vc_e0 (.skip (by kernel_rfl) (.skip (by kernel_rfl) (.skip (by kernel_rfl) (.skip (by kernel_rfl) .nil)))) ?_
 refine vc_p rfl rfl rfl (fun _ => (ev_fieldAddr rfl fo_65_2)) ?_
 refine vc_s rfl rfl rfl rfl rfl rfl ?_
 first | (refine wl_store hS12 rfl rfl sz_28 (by first | rfl | assumption | exact hS12.own_one 8 rfl | exact hS12.own_one 12 rfl) (i := 6) rfl (by first | decide | exact Nat.le_of_ble_eq_true rfl | (simp; done) | omega) ?_) | (refine wl_store hS12 rfl rfl sz_28 (by first | rfl | assumption | exact hS12.own_one 8 rfl | exact hS12.own_one 12 rfl) (i := 7) rfl (by first | decide | exact Nat.le_of_ble_eq_true rfl | (simp; done) | omega) ?_)
 intro w13 hS14; dsimp only [List.set] at hS14
 clear hS12
 refine vc_e0 (.skip (by kernel_rfl) (.skip (by kernel_rfl) (.skip (by kernel_rfl) (.skip (by kernel_rfl) .nil)))) ?_
 refine vc_p rfl rfl rfl (fun _ => (ev_fieldAddr rfl fo_65_9)) ?_
 refine vc_s rfl rfl rfl rfl rfl rfl ?_
 first | (refine wl_store hS14 rfl rfl sz_28 (by first | rfl | assumption | exact hS14.own_one 8 rfl | exact hS14.own_one 12 rfl) (i := 6) rfl (by first | decide | exact Nat.le_of_ble_eq_true rfl | (simp; done) | omega) ?_) | (refine wl_store hS14 rfl rfl sz_28 (by first | rfl | assumption | exact hS14.own_one 8 rfl | exact hS14.own_one 12 rfl) (i := 7) rfl (by first | decide | exact Nat.le_of_ble_eq_true rfl | (simp; done) | omega) ?_)
 intro w15 hS16; dsimp only [List.set] at hS16
 clear hS14
 refine vc_e0 (.skip (by kernel_rfl) (.skip (by kernel_rfl) (.skip (by kernel_rfl) (.skip (by kernel_rfl) .nil)))) ?_
 refine VC.nil (qs_seq ?_)
 refine wc_sub (L' := [(3, _), (2, _), (0, _)]) (.cons rfl (.cons rfl (.cons rfl .nil))) ?_
 refine wc_seq ?_
 have hS17 := hS16.drew
 refine wc_draw [0, 1, 2, 3, 5, 6, 7, 8, 10, 11, 12, 13, 4, 9, 14, 15, 16, 17, 18, 19, 20] [4, 9, 14, 16, 18, 20] mix (by kernel_rfl) ?_
 refine vc_p rfl rfl rfl (fun _ => (ev_move rfl)) ?_
 refine vc_p rfl rfl rfl (fun _ => (ev_nilCheck rfl)) ?_
 refine vc_p rfl rfl rfl (fun _ => (ev_fieldAddr rfl fo_65_3)) ?_
 refine vc_q rfl rfl rfl (ev_load rfl ag_58 (by first | assumption | exact hS17.cell 6 rfl rfl | exact hS17.cell 7 rfl rfl)) ?_
 refine vc_p rfl rfl rfl (fun _ => (ev_move rfl)) ?_
 refine vc_p rfl rfl rfl (fun _ => (ev_nilCheck rfl)) ?_
 refine vc_p rfl rfl rfl (fun _ => (ev_fieldAddr rfl fo_65_4)) ?_
 refine vc_q rfl rfl rfl (ev_load rfl ag_60 (by first | assumption | exact hS17.cell 6 rfl rfl | exact hS17.cell 7 rfl rfl)) ?_
 refine vc_p rfl rfl rfl (fun _ => (ev_move rfl)) ?_
 refine vc_p rfl rfl rfl (fun _ => (ev_nilCheck rfl)) ?_
 refine vc_p rfl rfl rfl (fun _ => (ev_fieldAddr rfl fo_65_5)) ?_
 refine vc_q rfl rfl rfl (ev_load rfl ag_62 (by first | assumption | exact hS17.cell 6 rfl rfl | exact hS17.cell 7 rfl rfl)) ?_
 refine vc_s rfl rfl rfl rfl rfl rfl ?_
 have hC18 := hS17.split [9] [false, false, false, false, false, false, false, false, false, true, false, false, false, false] rfl; dsimp only [selF, pickA, nthA, List.cons_append, List.nil_append] at hC18
 refine wl_call cal_56 rfl (frcopy_sp hC18) rfl ?_
 rintro e w18 ⟨_, rfl, nfr, rfl, hS18⟩; refine ⟨_, rfl, ?_⟩
 replace hS18 := hS18.join rfl; dsimp only [List.dropLast, List.cons_append, List.nil_append] at hS18; clear hC18
 clear hS17
 refine vc_e (.cons (.inl ⟨rfl, (ev_load rfl ag_62 (by first | assumption | exact hS18.cell 8 rfl rfl | exact hS18.cell 9 rfl rfl))⟩) (.cons (.inl ⟨rfl, (ev_load rfl ag_60 (by first | assumption | exact hS18.cell 8 rfl rfl | exact hS18.cell 9 rfl rfl))⟩) (.skip (by kernel_rfl) .nil))) ?_
 refine vc_s rfl rfl rfl rfl rfl rfl ?_
 have hC19 := hS18.split [11] [false, false, false, false, false, false, false, false, false, false, false, true, false, false, false] rfl; dsimp only [selF, pickA, nthA, List.cons_append, List.nil_append] at hC19
 refine wl_call cal_57 rfl (swcopy_sp hC19) rfl ?_
 rintro e w19 ⟨_, rfl, nsw, rfl, hS19⟩; refine ⟨_, rfl, ?_⟩
 replace hS19 := hS19.join rfl; dsimp only [List.dropLast, List.cons_append, List.nil_append] at hS19; clear hC19
 clear hS18
 refine vc_e (.cons (.inl ⟨rfl, (ev_load rfl ag_62 (by first | assumption | exact hS19.cell 10 rfl rfl | exact hS19.cell 11 rfl rfl))⟩) (.skip (by kernel_rfl) (.skip (by kernel_rfl) .nil))) ?_
 refine vc_s rfl rfl rfl rfl rfl rfl ?_
 have hC20 := hS19.split [13] [false, false, false, false, false, false, false, false, false, false, false, false, false, true, false, false] rfl; dsimp only [selF, pickA, nthA, List.cons_append, List.nil_append] at hC20
 refine wl_call cal_58 rfl (ckcopy_sp hC20) rfl ?_
 rintro e w20 ⟨_, rfl, nck, rfl, hS20⟩; refine ⟨_, rfl, ?_⟩
 replace hS20 := hS20.join rfl; dsimp only [List.dropLast, List.cons_append, List.nil_append] at hS20; clear hC20
 clear hS19
 refine vc_e (.skip (by kernel_rfl) (.skip (by kernel_rfl) (.skip (by kernel_rfl) .nil))) ?_
 refine vc_p rfl rfl rfl (fun _ => (ev_fieldAddr rfl fo_65_3)) ?_
 refine vc_s rfl rfl rfl rfl rfl rfl ?_
 first | (refine wl_store hS20 rfl rfl sz_58 (by first | rfl | assumption | exact hS20.own_one 14 rfl | exact hS20.own_one 15 rfl) (i := 12) rfl (by first | decide | exact Nat.le_of_ble_eq_true rfl | (simp; done) | omega) ?_) | (refine wl_store hS20 rfl rfl sz_58 (by first | rfl | assumption | exact hS20.own_one 14 rfl | exact hS20.own_one 15 rfl) (i := 13) rfl (by first | decide | exact Nat.le_of_ble_eq_true rfl | (simp; done) | omega) ?_)
 intro w21 hS22; dsimp only [List.set] at hS22
 clear hS20
 refine vc_e0 (.skip (by kernel_rfl) (.skip (by kernel_rfl) (.skip (by kernel_rfl) .nil))) ?_
 refine vc_p rfl rfl rfl (fun _ => (ev_fieldAddr rfl fo_65_4)) ?_
 refine vc_s rfl rfl rfl rfl rfl rfl ?_
 first | (refine wl_store hS22 rfl rfl sz_60 (by first | rfl | assumption | exact hS22.own_one 14 rfl | exact hS22.own_one 15 rfl) (i := 12) rfl (by first | decide | exact Nat.le_of_ble_eq_true rfl | (simp; done) | omega) ?_) | (refine wl_store hS22 rfl rfl sz_60 (by first | rfl | assumption | exact hS22.own_one 14 rfl | exact hS22.own_one 15 rfl) (i := 13) rfl (by first | decide | exact Nat.le_of_ble_eq_true rfl | (simp; done) | omega) ?_)
 intro w23 hS24; dsimp only [List.set] at hS24
 clear hS22
 refine vc_e0 (.skip (by kernel_rfl) (.skip (by kernel_rfl) (.skip (by kernel_rfl) .nil))) ?_
 refine vc_p rfl rfl rfl (fun _ => (ev_fieldAddr rfl fo_65_5)) ?_
 refine vc_s rfl rfl rfl rfl rfl rfl ?_
 first | (refine wl_store hS24 rfl rfl sz_62 (by first | rfl | assumption | exact hS24.own_one 14 rfl | exact hS24.own_one 15 rfl) (i := 12) rfl (by first | decide | exact Nat.le_of_ble_eq_true rfl | (simp; done) | omega) ?_) | (refine wl_store hS24 rfl rfl sz_62 (by first | rfl | assumption | exact hS24.own_one 14 rfl | exact hS24.own_one 15 rfl) (i := 13) rfl (by first | decide | exact Nat.le_of_ble_eq_true rfl | (simp; done) | omega) ?_)
 intro w25 hS26; dsimp only [List.set] at hS26
 clear hS24
 refine vc_e0 (.skip (by kernel_rfl) (.skip (by kernel_rfl) (.skip (by kernel_rfl) .nil))) ?_
 refine VC.nil (qs_seq ?_)
 refine wc_sub (L' := [(3, _), (2, _)]) (.cons rfl (.cons rfl .nil)) ?_
 refine wc_seq (wc_region (wl_assign rfl rfl (wl_nil (qs_seq (wc_ret ?_)))))
 refine fin1 (.inr rfl) rfl rfl ?_
 have hq := shT_shut (S := S) (hS26.pick [13, 11, 9, 14, 5, 3, 1, 15, 12, 10, 8, 7, 4, 2, 0, 6, 16] rfl)
 have hq2 := shT_shut (S := S) (hq.reorder [1, 2, 3, 4, 5, 6, 7, 8, 0, 9] rfl)
 exact ⟨_, rfl, _, rfl, hq2⟩
def newS (count slots budget : Int) : SS := ⟨fun _ => none, fun _ => none, [], List.replicate (min (max count 1) 256).toNat none, List.replicate (min (max slots 0) 4096).toNat [], List.replicate (min (max count 1) 256).toNat false, min (max slots 0) 4096, max budget 0, 1, []⟩
theorem newS_inv (count slots budget : Int) : ShI no0 0 (newS count slots budget) where
  ck := by simp [newS]
  fr1 := by simp [newS]; omega
  fr2 := by simp [newS]; omega
  slo := by simp [newS]; omega
  sl2 := by simp [newS]; omega
  bud := by simp [newS]; omega
  nx1 := by simp [newS]
  nx2 := by simp [newS]
  ent := fun h => by cases h
  frm := fun f j => ⟨fun h => (by cases h), fun ⟨_, x, h, _⟩ => (by cases h)⟩
  frc := fun _ h => by cases h
  fru := fun {f b} h => by
    obtain ⟨_, h⟩ := frAt_some h
    have : (newS count slots budget).fr = List.replicate (min (max count 1) 256).toNat none := rfl
    rw [this, List.getElem?_replicate] at h
    split at h
    · cases h
    · cases h
  pck := fun _ h => by cases h
  cch := fun h => by cases h
  nod := List.nodup_nil
  sum := by show ((0 : Nat) : Int) ≤ max budget 0; omega
  slt := fun _ h => by cases h
  slu := fun {k p} h hp => by
    have : (newS count slots budget).sl = List.replicate (min (max slots 0) 4096).toNat [] := rfl
    rw [this, List.getElem?_replicate] at h
    split at h
    · cases h; exact absurd rfl hp
    · cases h
  sli := fun _ _ h => by cases h
  cln := Nat.le_refl _
  tln := Nat.le_refl _
theorem aG_nil : (fun _ => none : Int → Option Value) = aG (fun _ => none) := rfl
set_option maxRecDepth 100000 in
set_option maxHeartbeats 1600000 in
theorem shnew_sp {w : World} {F : Th} (hS : Sat w [F]) (count slots budget : Int) :
    Calls Tryz.prog 9 #[intV count, intV slots, intV budget] w (Ret fun v w' => ∃ p, v = ptrV p 0 ∧ Sat w' [shT p (newS count slots budget), F]) := by
 refine calls_enter Tryz.func9 rfl Tryz.ntmps9 rfl ?_
 refine wc_seq (wc_region (wl_assign rfl rfl (wl_nil (qs_seq (wc_seq (wc_region (wl_move rfl rfl ?_)))))))
 refine wl_maxI rfl rfl rfl ?_
 refine wl_minI rfl rfl rfl ?_
 refine wl_move rfl rfl ?_
 refine wl_maxI rfl rfl rfl ?_
 refine wl_minI rfl rfl rfl ?_
 refine wl_assign rfl rfl (wl_assign rfl rfl (wl_nil (qs_seq (wc_seq (wc_region ?_)))))
 refine wl_makeMap intK hS rfl ?_
 intro mb1 w1 hS1; rw [aG_nil] at hS1
 refine wl_makeMap intK hS1 rfl ?_
 intro mb2 w2 hS2; rw [gI_none] at hS2
 clear hS1
 refine wl_move rfl rfl ?_
 have hC3 := hS2.split [] [false, false, false] rfl; dsimp only [selF, pickA, nthA, List.cons_append, List.nil_append] at hC3
 refine wl_call cal_29 rfl (frnew_sp hC3 (min (max count 1) 256)) rfl ?_
 rintro e w3 ⟨_, rfl, fpn, rfl, hS3⟩; refine ⟨_, rfl, ?_⟩
 replace hS3 := hS3.join rfl; dsimp only [List.dropLast, List.cons_append, List.nil_append] at hS3; clear hC3
 clear hS2
 refine wl_move rfl rfl ?_
 have hC4 := hS3.split [] [false, false, false, false] rfl; dsimp only [selF, pickA, nthA, List.cons_append, List.nil_append] at hC4
 refine wl_call cal_30 rfl (swnew_sp hC4 (min (max slots 0) 4096)) rfl ?_
 rintro e w4 ⟨_, rfl, spn, rfl, hS4⟩; refine ⟨_, rfl, ?_⟩
 replace hS4 := hS4.join rfl; dsimp only [List.dropLast, List.cons_append, List.nil_append] at hS4; clear hC4
 clear hS3
 refine wl_move rfl rfl ?_
 have hC5 := hS4.split [] [false, false, false, false, false] rfl; dsimp only [selF, pickA, nthA, List.cons_append, List.nil_append] at hC5
 refine wl_call cal_31 rfl (cknew_sp hC5 (min (max count 1) 256) (by omega)) rfl ?_
 rintro e w5 ⟨_, rfl, kpn, rfl, hS5⟩; refine ⟨_, rfl, ?_⟩
 replace hS5 := hS5.join rfl; dsimp only [List.dropLast, List.cons_append, List.nil_append] at hS5; clear hC5
 clear hS4
 refine wl_move rfl rfl (wl_move rfl rfl ?_)
 refine wl_maxI rfl rfl rfl ?_
 refine wl_buildS rfl pl_65_0_1_3_4_5_6_7_8 asz_65 zr_65 rfl rfl ?_
 refine wl_box hS5 rfl rfl rfl ?_
 intro bp wbp hSbp
 clear hS5
 refine wl_assign rfl rfl (wl_nil (qs_seq ?_))
 refine wc_sub (L' := [(6, _)]) (.cons rfl .nil) ?_
 refine wc_ret ?_
 refine fin1 (.inr rfl) rfl rfl ?_
 have hz := (hSbp.pick [0, 5, 4, 3, 2, 1, 6] rfl).row_nil inC
 have hz2 := (hz.reorder [1, 2, 3, 0, 4, 5, 6, 7] rfl).row_nil inC
 rw [show (min (max (min (max count 1) 256) 0) 4096).toNat = (min (max count 1) 256).toNat by omega] at hz2
 rw [show (max 0 (min (min (max slots 0) 4096) 4096)).toNat = (min (max slots 0) 4096).toNat by omega] at hz2
 exact ⟨_, rfl, _, rfl, shT_shut (S := newS count slots budget) (hz2.reorder [1, 2, 3, 4, 5, 6, 7, 0, 8] rfl)⟩
end Go.Proofs.YtnicmcdeoimhlaaGreat
/- sheets: what Bring defers -/
namespace Go.Proofs.YtnicmcdeoimhlaaGreat
open Go.RowKit M
set_option linter.unusedVariables false
/-- Bring has brought a sheet into frame k -/
structure BrS (T : Nat) (S S' : SS) (id : Int) (k : Nat) (x : ShE) : Prop where
  inv : ShI no0 (T + 1) S'
  go : ShG S S'
  is : S'.all id = some ⟨x.refs, 1, (k : Nat), x.pg⟩
theorem bring_of {T : Nat} {S SL S1 : SS} {id : Int} {k : Nat} {x : ShE} (h : ShI no0 T S) (hx : S.all id = some x) (hp : x.place ≠ 1) (hL : SL.all = S.all ∧ SL.taken = S.taken ∧ SL.budget = S.budget ∧ SL.slots = S.slots ∧ SL.fr = S.fr ∧ SL.next = S.next) (hg : GetS (one id) (T + 1) k SL S1) : BrS T S (onF S1 id k x.refs x.pg S1.next) id k x := by
  obtain ⟨e1, e2, e3, e4, e5, e6⟩ := hL
  obtain ⟨a1, a2, a3, a4, a5, a6⟩ := h.ent hx
  have hgo : ShG S SL := ⟨fun j => by rw [e1], ⟨[], by rw [e2]; simp, fun j y hy hp1 => .inr ⟨y, by rw [e1]; exact hy, hp1, rfl⟩⟩, e3, e4, by rw [e5], e6⟩
  have hgo2 := hgo.trans hg.go
  have hx1 := hg.lim id x (by rw [e1]; exact hx) rfl
  obtain ⟨b1, b2, b3, b4, b5, b6⟩ := hg.inv.ent hx1
  have h3 := hg.inv.onFrame (j := id) (nx := S1.next) (r := x.refs) (pg := x.pg) rfl hg.fr a1 (by omega) hg.inv.nx2 b2 ⟨b3, b4⟩ a5
  have hf := ShF.on (j := id) (k := k) (r := x.refs) (pg := x.pg) (nx := S1.next) hgo2 (fun y hy => by rw [hx] at hy; cases hy; exact hp)
  refine ⟨h3.congr fun i _ => ⟨fun ⟨a, b⟩ => b a, False.elim⟩, ⟨fun j => ?_, hf.tk, hf.bud, hf.slo, hf.frn, hgo2.nxt⟩, up_self⟩
  show (up S1.all id _ j).map _ = _
  by_cases q : j = id
  · subst q; rw [up_self, hx]; rfl
  · rw [up_ne q]; exact hgo2.same j
set_option maxRecDepth 100000 in
theorem shback_sp {w : World} {eb ob sb p : Nat} {ev : Int} {ov : Value} {a0 a1 a2 a3 a4 a5 a6 a7 a8 a9 : Value} {F : Th} (h1 : ov.oneCell' = true) (hS : Sat w [blkT eb [intV ev], blkT ob [ov], blkT sb [ptrV p 0], blkT p [a0, a1, a2, a3, a4, a5, a6, a7, a8, a9], F]) :
    CallsD Tryz.prog 62 #[ptrV eb 0, ptrV ob 0, ptrV sb 0] .returning w (fun e u' w' => u' = .returning ∧ Ret (fun v w' => if ev = 0 then Sat w' [blkT eb [intV ev], blkT ob [ov], blkT sb [ptrV p 0], blkT p [a0, a1, a2, a3, a4, a5, a6, a7, a8, a9], F] else Sat w' [blkT eb [intV ev], blkT ob [ov], blkT sb [ptrV p 0], blkT p [a0, a1, ov, a3, a4, a5, a6, a7, a8, a9], F]) e w') := by
  refine callsD_enter Tryz.func62 rfl Tryz.ntmps62 rfl ?_
  refine wc_seq ?_
  refine wc_region ?_
  refine wl_load rfl ag_34 (by first | assumption | exact hS.cell 0 rfl rfl | exact hS.cell 1 rfl rfl | exact hS.cell 2 rfl rfl | exact hS.cell 3 rfl rfl) rfl ?_
  refine wl_neq rfl rfl rfl ?_
  refine wl_nil ?_
  refine qs_seq ?_
  refine wc_condD rfl (fun h1 => ?_) (fun h1 => ?_)
  · skip
    refine wc_region ?_
    refine wl_load rfl ag_24 (by first | assumption | exact hS.cell 0 rfl rfl | exact hS.cell 1 rfl rfl | exact hS.cell 2 rfl rfl | exact hS.cell 3 rfl rfl) rfl ?_
    refine wl_load rfl ag_28 (by first | assumption | exact hS.cell 0 rfl rfl | exact hS.cell 1 rfl rfl | exact hS.cell 2 rfl rfl | exact hS.cell 3 rfl rfl) rfl ?_
    refine wl_nilCheck rfl rfl ?_
    refine wl_fieldAddr rfl fo_65_2 rfl ?_
    first | (refine wl_store hS rfl rfl sz_28 (by first | rfl | assumption) (i := 0) rfl (by first | decide | exact Nat.le_of_ble_eq_true rfl | (simp; done) | omega) ?_) | (refine wl_store hS rfl rfl sz_28 (by first | rfl | assumption) (i := 1) rfl (by first | decide | exact Nat.le_of_ble_eq_true rfl | (simp; done) | omega) ?_) | (refine wl_store hS rfl rfl sz_28 (by first | rfl | assumption) (i := 2) rfl (by first | decide | exact Nat.le_of_ble_eq_true rfl | (simp; done) | omega) ?_) | (refine wl_store hS rfl rfl sz_28 (by first | rfl | assumption) (i := 3) rfl (by first | decide | exact Nat.le_of_ble_eq_true rfl | (simp; done) | omega) ?_)
    intro w2 hS3; dsimp only [List.set] at hS3
    refine wl_nil ?_
    refine fin0 (.inl rfl) rfl ?_
    exact ⟨_, rfl, by dsimp only; rw [if_neg (by omega)]; exact hS3⟩
  refine wc_skip ?_
  refine fin0 (.inl rfl) rfl ?_
  exact ⟨_, rfl, by dsimp only; rw [if_pos (by omega)]; exact hS⟩
theorem res_two {P : Program} {n : Nat} {L : Env} {w : World} {fn : Func} {r r2 : ResultVar} {v v2 : Value} (hf : fn.results = #[r, r2]) (hv : resOk P n L w r v) (hv2 : resOk P n L w r2 v2) (a : Act) (ha : Fr n L a) : (results fn a.tmps).run P w = .ok (.tuple #[v, v2]) w := by rw [results_eq, hf]; simp [hv a ha, hv2 a ha]
end Go.Proofs.YtnicmcdeoimhlaaGreat
