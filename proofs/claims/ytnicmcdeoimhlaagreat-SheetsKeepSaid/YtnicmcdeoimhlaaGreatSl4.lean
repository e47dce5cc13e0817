/- laws of sheets: holds -/
import Derived.Test.YtnicmcdeoimhlaaGreatSl3
namespace Go.Proofs.YtnicmcdeoimhlaaGreat
open Go.RowKit M
set_option linter.unusedVariables false
theorem live_len {N : Nat} {S : SS} {M : MoD} {ks : List Int} (hR : MRel M (vw S)) (hks : AllC (aG S.all) ks) : ks.length = M.ids.length := by
  apply Nat.le_antisymm
  · refine nodup_le hks.nodup fun x hx => hR.dom fun q => (hks.mem x).1 hx ?_
    unfold aG; rw [vw_nil q]; rfl
  · refine nodup_le hR.nod fun x hx => (hks.mem x).2 ?_
    obtain ⟨i, hi⟩ := List.mem_iff_getElem?.1 hx
    obtain ⟨r, pg, _, _, h3⟩ := hR.rel hi
    obtain ⟨y, hy, _⟩ := vw_back h3
    unfold aG; rw [hy]; simp
set_option maxRecDepth 100000 in
set_option maxHeartbeats 3200000 in
theorem moholds_sp {w : World} {m p : Nat} {M : MoD} {S : SS} {F : Th} (hS : Sat w [moT m M, shT p S, F]) {N : Nat} (hI : ShI no0 N S) (hR : MRel M (vw S)) (hml : M.ids.length ≤ 100000) :
    Calls Tryz.prog 15 #[ptrV m 0, ptrV p 0] w (Ret fun v w' => v = .bool true ∧ Sat w' [moT m M, shT p S, F]) := by
 have hl1 := hR.l1
 have hl2 := hR.l2
 obtain ⟨a1, c1, a2, c2, a3, c3, hS⟩ := moT_open hS
 refine calls_enter Tryz.func15 rfl Tryz.ntmps15 rfl ?_
 refine wc_seq (wc_region (wl_assign rfl rfl (wl_nil (qs_seq (wc_seq (wc_seq (wc_region (wl_assign rfl rfl (wl_nil (qs_seq (wc_block ?_)))))))))))
 refine wc_loop (fun K0 E0 W0 => ∃ (i : Nat), K0 = M.ids.length - i ∧ E0 = [(0, ptrV m 0), (1, ptrV p 0), (5, intV (i : Int))] ∧ Sat W0 [blkT m [.slice a1 M.ids.length c1, .slice a2 M.refs.length c2, .slice a3 M.pages.length c3], rowT inC (.slice a1 M.ids.length c1) M.ids, rowT inC (.slice a2 M.refs.length c2) M.refs, rowT stC (.slice a3 M.pages.length c3) M.pages, shT p S, F] ∧ (i ≤ M.ids.length)) (L0 := [(0, _), (1, _), (5, _)]) (M.ids.length - 0) (.cons rfl (.cons rfl (.cons rfl .nil))) ⟨0, rfl, rfl, hS, by omega⟩ ?_
 rintro _ _ w1 ⟨i, rfl, rfl, hS1, hi⟩
 refine wc_seq (wc_seq (wc_region (wl_move rfl rfl (wl_move rfl rfl (wl_nilCheck rfl rfl ?_)))))
 refine wl_fieldAddr rfl fo_31_0 rfl ?_
 refine wl_load rfl ag_28 (by first | assumption | exact hS1.cell 0 rfl rfl) rfl ?_
 first | refine wl_lenL Tryz.underlying28 rfl rfl ?_ | refine wl_lenO 1 hS1 Tryz.underlying28 rfl rfl rfl ?_ | refine wl_lenO 2 hS1 Tryz.underlying28 rfl rfl rfl ?_ | refine wl_lenO 3 hS1 Tryz.underlying28 rfl rfl rfl ?_
 refine wl_lss rfl rfl rfl ?_
 refine wl_nil (qs_seq ?_)
 refine wc_condD rfl (fun h2 => ?_) (fun h2 => ?_)
 ·obtain ⟨j, hj⟩ : ∃ x, M.ids[i]? = some x := ⟨_, List.getElem?_eq_getElem (by omega)⟩
  obtain ⟨r, pg, hjr, hjp, hV⟩ := hR.rel hj
  obtain ⟨x, hx, hxr, hxp⟩ := vw_back hV
  have hpl := (hI.ent hx).2.2.2.2.2
  obtain ⟨ob1, oc1, hq1, _⟩ := hS1.own_at 1 rfl (by omega); cases hq1
  obtain ⟨ob2, oc2, hq2, _⟩ := hS1.own_at 2 rfl (by omega); cases hq2
  obtain ⟨ob3, oc3, hq3, _⟩ := hS1.own_at 3 rfl (by omega); cases hq3
  refine wc_skip (qs_seq (wc_seq (wc_block (wc_seq ?_))))
  have hS3 := hS1.drew
  refine wc_draw [0, 1, 2, 3, 4, 5, 6, 7, 9, 10, 11, 12, 13, 14, 15, 8, 16, 17, 18, 19, 20, 21, 22, 23, 24, 25, 27, 28, 29, 30, 31, 32, 33, 26, 34, 35, 36, 37, 38, 39, 40, 41, 42, 43, 44, 45, 46, 47] [8, 26, 45] mix (by kernel_rfl) ?_
  refine vc_p rfl rfl rfl (fun _ => (ev_move rfl)) ?_
  refine vc_p rfl rfl rfl (fun _ => (ev_move rfl)) ?_
  refine vc_p rfl rfl rfl (fun _ => (ev_nilCheck rfl)) ?_
  refine vc_p rfl rfl rfl (fun _ => (ev_fieldAddr rfl fo_31_0)) ?_
  refine vc_q rfl rfl rfl (ev_load rfl ag_28 (by first | assumption | exact hS3.cell 0 rfl rfl)) ?_
  refine vc_p rfl rfl rfl (fun _ => (ev_move rfl)) ?_
  refine vc_p rfl rfl rfl (fun _ => (ev_indexAddr i rfl rfl (by first | rfl | omega) (by omega) es_28)) ?_
  refine vc_q rfl rfl rfl (ev_rowLoad0 inC 1 i 0 hS3 rfl hj ag_3 rfl rfl) ?_
  refine vc_p rfl rfl rfl (fun _ => (ev_move rfl)) ?_
  refine vc_p rfl rfl rfl (fun _ => (ev_nilCheck rfl)) ?_
  refine vc_p rfl rfl rfl (fun _ => (ev_fieldAddr rfl fo_31_2)) ?_
  refine vc_q rfl rfl rfl (ev_load rfl ag_29 (by first | assumption | exact hS3.cell 0 rfl rfl)) ?_
  refine vc_p rfl rfl rfl (fun _ => (ev_move rfl)) ?_
  refine vc_p rfl rfl rfl (fun _ => (ev_indexAddr i rfl rfl (by first | rfl | omega) (by omega) es_29)) ?_
  refine vc_q rfl rfl rfl (ev_rowLoad0 stC 3 i 0 hS3 rfl hjp ag_9 rfl rfl) ?_
  refine vc_s rfl rfl rfl rfl rfl rfl ?_
  have hC4 := hS3.split [4] [false, false, false, false, true, false] rfl; dsimp only [selF, pickA, nthA, List.cons_append, List.nil_append] at hC4
  refine wl_call cal_21 rfl (shpage_sp hC4 hI j (fun q => q)) rfl ?_
  rintro e w4 ⟨_, rfl, rfl, hS4⟩; refine ⟨_, rfl, ?_⟩
  replace hS4 := hS4.join rfl; dsimp only [List.dropLast, List.cons_append, List.nil_append] at hS4; clear hC4
  clear hS3
  rw [show shPg S j = pg by unfold shPg; rw [hx]; exact hxp]
  refine vc_e (.cons (.inl ⟨rfl, (ev_rowLoad0 stC 4 i 0 hS4 rfl hjp ag_9 rfl rfl)⟩) (.cons (.inl ⟨rfl, (ev_load rfl ag_29 (by first | assumption | exact hS4.cell 1 rfl rfl))⟩) (.skip (by kernel_rfl) (.skip (by kernel_rfl) .nil)))) ?_
  refine vc_p rfl rfl rfl (fun _ => (ev_neqS rfl rfl)) ?_
  refine vc_p rfl rfl rfl (fun _ => (ev_move rfl)) ?_
  refine vc_splitD 32 rfl (fun h5 => ?_) (fun h5 => ?_)
  ·exact absurd rfl h5
  refine vc_p rfl rfl (guard_yes rfl rfl (decide_eq_false h5)) (fun _ => (Ev.gd (ev_move rfl))) ?_
  refine vc_p rfl rfl (guard_yes rfl rfl (decide_eq_false h5)) (fun _ => (Ev.gd (ev_move rfl))) ?_
  refine vc_p rfl rfl (guard_yes rfl rfl (decide_eq_false h5)) (fun _ => (Ev.gd (ev_nilCheck rfl))) ?_
  refine vc_p rfl rfl (guard_yes rfl rfl (decide_eq_false h5)) (fun _ => (Ev.gd (ev_fieldAddr rfl fo_31_0))) ?_
  refine vc_q rfl rfl (guard_yes rfl rfl (decide_eq_false h5)) (Ev.gd (ev_load rfl ag_28 (by first | assumption | exact hS4.cell 1 rfl rfl))) ?_
  refine vc_p rfl rfl (guard_yes rfl rfl (decide_eq_false h5)) (fun _ => (Ev.gd (ev_move rfl))) ?_
  refine vc_p rfl rfl (guard_yes rfl rfl (decide_eq_false h5)) (fun _ => (Ev.gd (ev_indexAddr i rfl rfl (by first | rfl | omega) (by omega) es_28))) ?_
  refine vc_q rfl rfl (guard_yes rfl rfl (decide_eq_false h5)) (Ev.gd (ev_rowLoad0 inC 2 i 0 hS4 rfl hj ag_3 rfl rfl)) ?_
  refine vc_p rfl rfl (guard_yes rfl rfl (decide_eq_false h5)) (fun _ => (Ev.gd (ev_move rfl))) ?_
  refine vc_p rfl rfl (guard_yes rfl rfl (decide_eq_false h5)) (fun _ => (Ev.gd (ev_nilCheck rfl))) ?_
  refine vc_p rfl rfl (guard_yes rfl rfl (decide_eq_false h5)) (fun _ => (Ev.gd (ev_fieldAddr rfl fo_31_1))) ?_
  refine vc_q rfl rfl (guard_yes rfl rfl (decide_eq_false h5)) (Ev.gd (ev_load rfl ag_28 (by first | assumption | exact hS4.cell 1 rfl rfl))) ?_
  refine vc_p rfl rfl (guard_yes rfl rfl (decide_eq_false h5)) (fun _ => (Ev.gd (ev_move rfl))) ?_
  refine vc_p rfl rfl (guard_yes rfl rfl (decide_eq_false h5)) (fun _ => (Ev.gd (ev_indexAddr i rfl rfl (by first | rfl | omega) (by omega) es_28))) ?_
  refine vc_q rfl rfl (guard_yes rfl rfl (decide_eq_false h5)) (Ev.gd (ev_rowLoad0 inC 3 i 0 hS4 rfl hjr ag_3 rfl rfl)) ?_
  refine vc_s rfl rfl (guard_yes rfl rfl (decide_eq_false h5)) rfl rfl rfl ?_
  have hC6 := hS4.split [0] [true, false, false, false, false, false] rfl; dsimp only [selF, pickA, nthA, List.cons_append, List.nil_append] at hC6
  refine wl_call cal_25 rfl (shrefs_sp hC6 j) rfl ?_
  rintro e w6 ⟨_, rfl, rfl, hS6⟩; refine ⟨_, rfl, ?_⟩
  replace hS6 := hS6.join rfl; dsimp only [List.dropLast, List.cons_append, List.nil_append] at hS6; clear hC6
  clear hS4
  rw [hx]
  dsimp only
  rw [hxr]
  refine vc_e (.cons (.inl ⟨(guard_yes rfl rfl (decide_eq_false h5)), (Ev.gd (ev_rowLoad0 inC 3 i 0 hS6 rfl hjr ag_3 rfl rfl))⟩) (.cons (.inl ⟨(guard_yes rfl rfl (decide_eq_false h5)), (Ev.gd (ev_load rfl ag_28 (by first | assumption | exact hS6.cell 1 rfl rfl)))⟩) (.skip (by kernel_rfl) (.skip (by kernel_rfl) (.skip (by kernel_rfl) (.skip (by kernel_rfl) (.skip (by kernel_rfl) (.skip (by kernel_rfl) .nil)))))))) ?_
  refine vc_p rfl rfl (guard_yes rfl rfl (decide_eq_false h5)) (fun _ => (Ev.gd (ev_neq rfl rfl))) ?_
  refine vc_p rfl rfl rfl (fun _ => (ev_pickF rfl (decide_eq_false h5) rfl)) ?_
  refine vc_p rfl rfl rfl (fun _ => (ev_move rfl)) ?_
  refine vc_splitD 51 rfl (fun h7 => ?_) (fun h7 => ?_)
  ·exact absurd rfl h7
  refine vc_p rfl rfl (guard_yes rfl rfl (decide_eq_false h7)) (fun _ => (Ev.gd (ev_move rfl))) ?_
  refine vc_p rfl rfl (guard_yes rfl rfl (decide_eq_false h7)) (fun _ => (Ev.gd (ev_move rfl))) ?_
  refine vc_p rfl rfl (guard_yes rfl rfl (decide_eq_false h7)) (fun _ => (Ev.gd (ev_nilCheck rfl))) ?_
  refine vc_p rfl rfl (guard_yes rfl rfl (decide_eq_false h7)) (fun _ => (Ev.gd (ev_fieldAddr rfl fo_31_0))) ?_
  refine vc_q rfl rfl (guard_yes rfl rfl (decide_eq_false h7)) (Ev.gd (ev_load rfl ag_28 (by first | assumption | exact hS6.cell 1 rfl rfl))) ?_
  refine vc_p rfl rfl (guard_yes rfl rfl (decide_eq_false h7)) (fun _ => (Ev.gd (ev_move rfl))) ?_
  refine vc_p rfl rfl (guard_yes rfl rfl (decide_eq_false h7)) (fun _ => (Ev.gd (ev_indexAddr i rfl rfl (by first | rfl | omega) (by omega) es_28))) ?_
  refine vc_q rfl rfl (guard_yes rfl rfl (decide_eq_false h7)) (Ev.gd (ev_rowLoad0 inC 2 i 0 hS6 rfl hj ag_3 rfl rfl)) ?_
  refine vc_s rfl rfl (guard_yes rfl rfl (decide_eq_false h7)) rfl rfl rfl ?_
  have hC8 := hS6.split [0] [true, false, false, false, false, false] rfl; dsimp only [selF, pickA, nthA, List.cons_append, List.nil_append] at hC8
  refine wl_call cal_19 rfl (shplace_sp hC8 j) rfl ?_
  rintro e w8 ⟨_, rfl, rfl, hS8⟩; refine ⟨_, rfl, ?_⟩
  replace hS8 := hS8.join rfl; dsimp only [List.dropLast, List.cons_append, List.nil_append] at hS8; clear hC8
  clear hS6
  rw [hx]
  dsimp only
  refine vc_e (.skip (by kernel_rfl) (.skip (by kernel_rfl) (.skip (by kernel_rfl) (.skip (by kernel_rfl) (.skip (by kernel_rfl) (.skip (by kernel_rfl) (.skip (by kernel_rfl) (.skip (by kernel_rfl) (.skip (by kernel_rfl) (.skip (by kernel_rfl) .nil)))))))))) ?_
  refine vc_p rfl rfl (guard_yes rfl rfl (decide_eq_false h7)) (fun _ => (Ev.gd (ev_eql rfl rfl))) ?_
  refine vc_p rfl rfl rfl (fun _ => (ev_pickF rfl (decide_eq_false h7) rfl)) ?_
  refine VC.nil (qs_seq ?_)
  refine wc_sub (L' := [(62, _), (0, _), (1, _), (5, _)]) (.cons rfl (.cons rfl (.cons rfl (.cons rfl .nil)))) ?_
  refine wc_condD rfl (fun h9 => ?_) (fun h9 => ?_)
  ·exact absurd h9 (by omega)
  refine wc_skip (qs_block_normal (qs_seq (wc_region (wl_move rfl rfl ?_))))
  refine wl_add rfl rfl (by omega) (by omega) rfl ?_
  refine wl_assign rfl rfl (wl_nil ?_)
  exact qs_round (L1 := [(0, _), (1, _), (5, intV ((i + 1 : Nat) : Int))]) (.cons rfl (.cons rfl (.cons rfl .nil))) (k1 := M.ids.length - (i + 1)) (by omega) ⟨i + 1, rfl, rfl, hS8.pick [1, 2, 3, 4, 0, 5] rfl, by omega⟩
 refine wc_exit (qs_then_exit (qs_then_exit (qs_block_exit (qs_seq (wc_seq ?_)))))
 have hS10 := hS1.drew
 refine wc_draw [0, 3, 4, 5, 6, 7, 1, 2, 8, 9] [1] mix (by kernel_rfl) ?_
 refine vc_p rfl rfl rfl (fun _ => (ev_move rfl)) ?_
 refine vc_p rfl rfl rfl (fun _ => (ev_move rfl)) ?_
 refine vc_p rfl rfl rfl (fun _ => (ev_nilCheck rfl)) ?_
 refine vc_p rfl rfl rfl (fun _ => (ev_fieldAddr rfl fo_31_0)) ?_
 refine vc_q rfl rfl rfl (ev_load rfl ag_28 (by first | assumption | exact hS10.cell 0 rfl rfl)) ?_
 refine vc_p rfl rfl rfl (fun _ => (ev_lenL Tryz.underlying28 rfl)) ?_
 refine vc_s rfl rfl rfl rfl rfl rfl ?_
 have hC11 := hS10.split [4] [false, false, false, false, true, false] rfl; dsimp only [selF, pickA, nthA, List.cons_append, List.nil_append] at hC11
 refine wl_call cal_17 rfl (shlive_sp hC11 (ids := M.ids) (fun j hj => hR.dom (by intro q; exact hj (vw_nil q))) (by omega)) rfl ?_
 rintro e w11 ⟨_, rfl, ks, hks, hS11⟩; refine ⟨_, rfl, ?_⟩
 replace hS11 := hS11.join rfl; dsimp only [List.dropLast, List.cons_append, List.nil_append] at hS11; clear hC11
 clear hS10
 obtain ⟨la, lc, hlv, _⟩ := hS11.own_shape 0 rfl
 obtain rfl := hlv
 refine vc_e (.cons (.inl ⟨rfl, (ev_load rfl ag_28 (by first | assumption | exact hS11.cell 2 rfl rfl))⟩) .nil) ?_
 refine vc_p rfl rfl rfl (fun _ => (ev_lenL Tryz.underlying28 rfl)) ?_
 refine vc_p rfl rfl rfl (fun _ => (ev_eql rfl rfl)) ?_
 refine vc_p rfl rfl rfl (fun _ => (ev_assign rfl)) ?_
 refine VC.nil (qs_seq ?_)
 refine wc_sub (L' := [(4, _)]) (.cons rfl .nil) ?_
 refine wc_ret ?_
 refine fin1 (.inr rfl) rfl rfl ?_
 exact ⟨_, rfl, by rw [sortI_len, live_len (N := N) hR hks]; simp, (moT_shut (hS11.pick [2, 3, 4, 5, 1, 6] rfl)).reorder [0, 1, 2] rfl⟩
end Go.Proofs.YtnicmcdeoimhlaaGreat
