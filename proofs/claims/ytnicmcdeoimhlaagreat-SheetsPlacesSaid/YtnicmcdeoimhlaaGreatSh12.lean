/- sheets: Bring -/
import Derived.Test.YtnicmcdeoimhlaaGreatSh12a
namespace Go.Proofs.YtnicmcdeoimhlaaGreat
open Go.RowKit M
set_option linter.unusedVariables false
set_option maxRecDepth 100000 in
set_option maxHeartbeats 1600000 in
theorem shpageO_sp {w : World} {p : Nat} {S : SS} {ba bi fp sp kp : Nat} {ac at2 : Option Addr} {cc ct : Nat} {F : Th} (hS : Sat w [blkT p [.map (some ba), .map (some bi), .slice ac S.cache.length cc, ptrV fp 0, ptrV sp 0, ptrV kp 0, intV S.slots, intV S.budget, intV S.next, .slice at2 S.taken.length ct], mapT intK ba (aG S.all), mapT intK bi (gI S.inn), rowT inC (.slice ac S.cache.length cc) S.cache, frT fp S.fr, swT sp S.sl, ckT kp S.ck, rowT inC (.slice at2 S.taken.length ct) S.taken, F]) {E : Int → Prop} {N : Nat} (hI : ShI E N S) (id : Int) (hE : ¬ E id) :
    Calls Tryz.prog 21 #[ptrV p 0, intV id] w (Ret fun v w' => v = strV (shPg S id) ∧ Sat w' [blkT p [.map (some ba), .map (some bi), .slice ac S.cache.length cc, ptrV fp 0, ptrV sp 0, ptrV kp 0, intV S.slots, intV S.budget, intV S.next, .slice at2 S.taken.length ct], mapT intK ba (aG S.all), mapT intK bi (gI S.inn), rowT inC (.slice ac S.cache.length cc) S.cache, frT fp S.fr, swT sp S.sl, ckT kp S.ck, rowT inC (.slice at2 S.taken.length ct) S.taken, F]) := by
 cases hid : S.all id with
 | none =>
  refine calls_enter Tryz.func21 rfl Tryz.ntmps21 rfl ?_
  refine wc_seq (wc_region (wl_assign rfl rfl (wl_nil (qs_seq (wc_seq (wc_region (wl_move rfl rfl (wl_nilCheck rfl rfl ?_))))))))
  refine wl_fieldAddr rfl fo_65_0 rfl ?_
  refine wl_load rfl ag_56 (by first | assumption | exact hS.cell 0 rfl rfl) rfl ?_
  refine wl_move rfl rfl ?_
  refine wl_lookupOk (k := id) 1 hS keysInt Tryz.underlying56 rfl rfl rfl zr_76 (u := (.agg #[intV 0, intV 0, intV 0, strV []])) (g := false) (aG_none hid) (aG_none2 hid) rfl ?_
  refine wl_move rfl rfl (wl_extract rfl rfl rfl (wl_extract rfl rfl rfl ?_))
  refine wl_alloc hS zr_76 rfl rfl ?_
  intro b1 w1 hS1
  first | (refine wl_storeA hS1 rfl rfl sz_76 rfl (by first | rfl | (simp [allOne, Value.oneCell']; done) | assumption | exact hone) (i := 0) rfl (by first | decide | exact Nat.le_of_ble_eq_true rfl | (simp; done) | omega) ?_) | (refine wl_storeA hS1 rfl rfl sz_76 rfl (by first | rfl | (simp [allOne, Value.oneCell']; done) | assumption | exact hone) (i := 1) rfl (by first | decide | exact Nat.le_of_ble_eq_true rfl | (simp; done) | omega) ?_)
  intro w2 hS3; dsimp only [List.set] at hS3
  clear hS1
  refine wl_assign rfl rfl (wl_nil (qs_seq ?_))
  refine wc_sub (L' := [(6, _), (5, _), (4, _), (0, _), (1, _)]) (.cons rfl (.cons rfl (.cons rfl (.cons rfl (.cons rfl .nil))))) ?_
  refine wc_seq (wc_block (wc_seq (wc_region (wl_move rfl rfl ?_))))
  refine wl_eql rfl rfl rfl ?_
  refine wl_assign rfl rfl (wl_nil (qs_seq ?_))
  refine wc_condD rfl (fun h4 => ?_) (fun h4 => ?_)
  ·refine wc_seq (wc_region ?_)
   have hC5 := hS3.split [] [false, false, false, false, false, false, false, false, false, false] rfl; dsimp only [selF, pickA, nthA, List.cons_append, List.nil_append] at hC5
   refine wl_call cal_49 rfl (clone_sp hC5 zer (by decide)) rfl ?_
   rintro e w5 ⟨_, rfl, rfl, hS5⟩; refine ⟨_, rfl, ?_⟩
   replace hS5 := hS5.join rfl; dsimp only [List.dropLast, List.cons_append, List.nil_append] at hS5; clear hC5
   clear hS3
   refine wl_assign rfl rfl (wl_nil (qs_seq (wc_ret (qs_block_ret (qs_then_ret ?_)))))
   refine fin1 (.inr rfl) rfl rfl ?_
   exact ⟨_, rfl, by unfold shPg; rw [hid]; dsimp only; rw [if_pos (by omega)], hS5.pick [1, 2, 3, 4, 5, 6, 7, 8, 9] rfl⟩
  refine wc_seq (wc_region (wl_move rfl rfl ?_))
  refine wl_not rfl rfl ?_
  refine wl_assign rfl rfl (wl_nil (qs_seq ?_))
  refine wc_sub (L' := [(24, _), (5, _), (4, _), (0, _)]) (.cons rfl (.cons rfl (.cons rfl (.cons rfl .nil)))) ?_
  refine wc_cond rfl (fun h6 => ?_) (fun h6 => ?_)
  ·refine wc_seq (wc_region (wl_assign rfl rfl (wl_nil (qs_seq (wc_ret (qs_block_ret (qs_then_ret ?_)))))))
   refine fin1 (.inr rfl) rfl rfl ?_
   exact ⟨_, rfl, by unfold shPg; rw [hid]; dsimp only; rw [if_neg (by omega)], hS3.pick [1, 2, 3, 4, 5, 6, 7, 8, 9] rfl⟩
  exact absurd h6 (by simp)
 | some x =>
  obtain ⟨hid1, _, hr1, hr2, _, hplc⟩ := hI.ent hid
  refine calls_enter Tryz.func21 rfl Tryz.ntmps21 rfl ?_
  refine wc_seq (wc_region (wl_assign rfl rfl (wl_nil (qs_seq (wc_seq (wc_region (wl_move rfl rfl (wl_nilCheck rfl rfl ?_))))))))
  refine wl_fieldAddr rfl fo_65_0 rfl ?_
  refine wl_load rfl ag_56 (by first | assumption | exact hS.cell 0 rfl rfl) rfl ?_
  refine wl_move rfl rfl ?_
  refine wl_lookupOk (k := id) 1 hS keysInt Tryz.underlying56 rfl rfl rfl zr_76 (u := (.agg #[intV x.refs, intV x.place, intV x.at_, strV (fmE x)])) (g := true) (aG_some hid) (aG_some2 hid) rfl ?_
  refine wl_move rfl rfl (wl_extract rfl rfl rfl (wl_extract rfl rfl rfl ?_))
  refine wl_alloc hS zr_76 rfl rfl ?_
  intro b1 w1 hS1
  first | (refine wl_storeA hS1 rfl rfl sz_76 rfl (by first | rfl | (simp [allOne, Value.oneCell']; done) | assumption | exact hone) (i := 0) rfl (by first | decide | exact Nat.le_of_ble_eq_true rfl | (simp; done) | omega) ?_) | (refine wl_storeA hS1 rfl rfl sz_76 rfl (by first | rfl | (simp [allOne, Value.oneCell']; done) | assumption | exact hone) (i := 1) rfl (by first | decide | exact Nat.le_of_ble_eq_true rfl | (simp; done) | omega) ?_)
  intro w2 hS3; dsimp only [List.set] at hS3
  clear hS1
  refine wl_assign rfl rfl (wl_nil (qs_seq ?_))
  refine wc_sub (L' := [(6, _), (5, _), (4, _), (0, _), (1, _)]) (.cons rfl (.cons rfl (.cons rfl (.cons rfl (.cons rfl .nil))))) ?_
  refine wc_seq (wc_block (wc_seq (wc_region (wl_move rfl rfl ?_))))
  refine wl_eql rfl rfl rfl ?_
  refine wl_assign rfl rfl (wl_nil (qs_seq ?_))
  refine wc_condD rfl (fun h4 => ?_) (fun h4 => ?_)
  ·exact absurd h4 (by omega)
  refine wc_seq (wc_region (wl_move rfl rfl ?_))
  refine wl_not rfl rfl ?_
  refine wl_assign rfl rfl (wl_nil (qs_seq ?_))
  refine wc_sub (L' := [(24, _), (5, _), (4, _), (0, _)]) (.cons rfl (.cons rfl (.cons rfl (.cons rfl .nil)))) ?_
  refine wc_cond rfl (fun h5 => ?_) (fun h5 => ?_)
  ·exact absurd h5 (by simp)
  refine wc_seq (wc_region ?_)
  refine wl_fieldAddr rfl fo_76_1 rfl ?_
  refine wl_load rfl ag_3 (by first | assumption | exact hS3.cell 0 rfl rfl | exact hS3.cell 1 rfl rfl) rfl ?_
  refine wl_eql rfl rfl rfl ?_
  refine wl_assign rfl rfl (wl_nil (qs_seq ?_))
  refine wc_condD rfl (fun h6 => ?_) (fun h6 => ?_)
  ·have hp1 : x.place = 1 := h6
   refine wc_seq ?_
   have hS7 := hS3.drew
   refine wc_draw [0, 1, 2, 3, 4, 5, 6, 7] [6] mix (by kernel_rfl) ?_
   refine vc_p rfl rfl rfl (fun _ => (ev_move rfl)) ?_
   refine vc_p rfl rfl rfl (fun _ => (ev_nilCheck rfl)) ?_
   refine vc_p rfl rfl rfl (fun _ => (ev_fieldAddr rfl fo_65_3)) ?_
   refine vc_q rfl rfl rfl (ev_load rfl ag_58 (by first | assumption | exact hS7.cell 0 rfl rfl | exact hS7.cell 1 rfl rfl)) ?_
   refine vc_p rfl rfl rfl (fun _ => (ev_fieldAddr rfl fo_76_2)) ?_
   refine vc_q rfl rfl rfl (ev_load rfl ag_3 (by first | assumption | exact hS7.cell 0 rfl rfl | exact hS7.cell 1 rfl rfl)) ?_
   refine vc_s rfl rfl rfl rfl rfl rfl ?_
   have hC8 := hS7.split [5] [false, false, false, false, false, true, false, false, false, false] rfl; dsimp only [selF, pickA, nthA, List.cons_append, List.nil_append] at hC8
   refine wl_call cal_50 rfl (frpage_sp hC8 x.at_) rfl ?_
   rintro e w8 ⟨_, rfl, rfl, hS8⟩; refine ⟨_, rfl, ?_⟩
   replace hS8 := hS8.join rfl; dsimp only [List.dropLast, List.cons_append, List.nil_append] at hS8; clear hC8
   clear hS7
   rw [hI.frc hE hid hp1]
   dsimp only [Option.getD_some]
   refine vc_e (.skip (by kernel_rfl) (.skip (by kernel_rfl) .nil)) ?_
   refine vc_p rfl rfl rfl (fun _ => (ev_assign rfl)) ?_
   refine VC.nil (qs_seq ?_)
   refine wc_sub (L' := [(4, _), (5, _), (0, _)]) (.cons rfl (.cons rfl (.cons rfl .nil))) ?_
   refine wc_ret (qs_block_ret (qs_then_ret ?_))
   refine fin1 (.inr rfl) rfl rfl ?_
   exact ⟨_, rfl, by unfold shPg; rw [hid], hS8.pick [2, 3, 4, 5, 0, 6, 7, 8, 9] rfl⟩
  refine wc_seq (wc_region ?_)
  refine wl_fieldAddr rfl fo_76_1 rfl ?_
  refine wl_load rfl ag_3 (by first | assumption | exact hS3.cell 0 rfl rfl | exact hS3.cell 1 rfl rfl) rfl ?_
  refine wl_eql rfl rfl rfl ?_
  refine wl_assign rfl rfl (wl_nil (qs_seq ?_))
  refine wc_sub (L' := [(38, _), (5, _), (4, _), (0, _)]) (.cons rfl (.cons rfl (.cons rfl (.cons rfl .nil)))) ?_
  refine wc_condD rfl (fun h9 => ?_) (fun h9 => ?_)
  ·have hp2 : x.place = 2 := h9
   refine wc_seq (wc_region ?_)
   refine wl_fieldAddr rfl fo_76_3 rfl ?_
   refine wl_load rfl ag_9 (by first | assumption | exact hS3.cell 0 rfl rfl | exact hS3.cell 1 rfl rfl) rfl ?_
   obtain ⟨fy, hfy⟩ := Option.ne_none_iff_exists'.1 (hI.pck hE hid hp2).2
   have hfme : fmE x = fy := by unfold fmE fm; rw [if_pos hp2, hfy]; rfl
   have hC10 := hS3.split [] [false, false, false, false, false, false, false, false, false, false] rfl; dsimp only [selF, pickA, nthA, List.cons_append, List.nil_append] at hC10
   refine wl_call cal_51 rfl (unpack_sp hC10 (hI.ent hid).2.2.2.2.1 (by rw [hfme]; exact hfy)) rfl ?_
   rintro e w10 ⟨_, rfl, rfl, hS10⟩; refine ⟨_, rfl, ?_⟩
   replace hS10 := hS10.join rfl; dsimp only [List.dropLast, List.cons_append, List.nil_append] at hS10; clear hC10
   clear hS3
   refine wl_move rfl rfl (wl_extract rfl rfl rfl (wl_extract rfl rfl rfl (wl_assign rfl rfl (wl_assign rfl rfl (wl_nil (qs_seq ?_))))))
   refine wc_sub (L' := [(7, _), (5, _), (4, _), (0, _)]) (.cons rfl (.cons rfl (.cons rfl (.cons rfl .nil)))) ?_
   refine wc_seq (wc_region (wl_move rfl rfl (wl_assign rfl rfl (wl_nil (qs_seq (wc_ret (qs_block_ret (qs_then_ret ?_))))))))
   refine fin1 (.inr rfl) rfl rfl ?_
   exact ⟨_, rfl, by unfold shPg; rw [hid], hS10.pick [1, 2, 3, 4, 5, 6, 7, 8, 9] rfl⟩
  refine wc_skip (qs_block_normal (qs_seq (wc_seq ?_)))
  have hp3 : x.place = 3 := by omega
  have hS11 := hS3.drew
  refine wc_draw [0, 1, 2, 3, 4, 5, 6, 7, 8, 9, 10, 11] [6] mix (by kernel_rfl) ?_
  refine vc_p rfl rfl rfl (fun _ => (ev_move rfl)) ?_
  refine vc_p rfl rfl rfl (fun _ => (ev_nilCheck rfl)) ?_
  refine vc_p rfl rfl rfl (fun _ => (ev_fieldAddr rfl fo_65_4)) ?_
  refine vc_q rfl rfl rfl (ev_load rfl ag_60 (by first | assumption | exact hS11.cell 0 rfl rfl | exact hS11.cell 1 rfl rfl)) ?_
  refine vc_p rfl rfl rfl (fun _ => (ev_fieldAddr rfl fo_76_2)) ?_
  refine vc_q rfl rfl rfl (ev_load rfl ag_3 (by first | assumption | exact hS11.cell 0 rfl rfl | exact hS11.cell 1 rfl rfl)) ?_
  refine vc_s rfl rfl rfl rfl rfl rfl ?_
  have hC12 := hS11.split [6] [false, false, false, false, false, false, true, false, false, false] rfl; dsimp only [selF, pickA, nthA, List.cons_append, List.nil_append] at hC12
  refine wl_call cal_52 rfl (swget_sp hC12 x.at_) rfl ?_
  rintro e w12 ⟨_, rfl, eg, rfl, hS12⟩; refine ⟨_, rfl, ?_⟩
  replace hS12 := hS12.join rfl; dsimp only [List.dropLast, List.cons_append, List.nil_append] at hS12; clear hC12
  clear hS11
  rw [(slot_has hI hE hid hp3).2.1]
  refine vc_e (.skip (by kernel_rfl) (.skip (by kernel_rfl) .nil)) ?_
  refine vc_p rfl rfl rfl (fun _ => (ev_move rfl)) ?_
  refine vc_p rfl rfl rfl (fun _ => (ev_extract rfl rfl)) ?_
  refine vc_p rfl rfl rfl (fun _ => (ev_extract rfl rfl)) ?_
  refine vc_p rfl rfl rfl (fun _ => (ev_assign rfl)) ?_
  refine vc_p rfl rfl rfl (fun _ => (ev_assign rfl)) ?_
  refine VC.nil (qs_seq ?_)
  refine wc_sub (L' := [(9, _), (4, _)]) (.cons rfl (.cons rfl .nil)) ?_
  refine wc_seq (wc_region (wl_move rfl rfl (wl_assign rfl rfl (wl_nil (qs_seq (wc_ret ?_))))))
  refine fin1 (.inr rfl) rfl rfl ?_
  exact ⟨_, rfl, by unfold shPg; rw [hid], hS12.pick [2, 3, 4, 5, 6, 0, 7, 8, 9] rfl⟩
set_option maxRecDepth 100000 in
set_option maxHeartbeats 3200000 in
theorem shbring_sp {w : World} {p : Nat} {S : SS} {F : Th} (hS : Sat w [shT p S, F]) {N : Nat} (hI : ShI no0 N S) (hN : N ≤ 800000) (id : Int) :
    Calls Tryz.prog 24 #[ptrV p 0, intV id] w (Ret fun v w' => (match S.all id with | none => v = .tuple #[intV 0, intV 4] ∧ Sat w' [shT p S, F] | some x => (x.place = 1 ∧ v = .tuple #[intV x.at_, intV 0] ∧ Sat w' [shT p S, F]) ∨ (∃ k S', x.place ≠ 1 ∧ v = .tuple #[intV (k : Nat), intV 0] ∧ BrS N S S' id k x ∧ Sat w' [shT p S', F]) ∨ (x.place = 2 ∧ v = .tuple #[intV 0, intV 6] ∧ (∀ o ∈ S.fr, o ≠ none) ∧ usedN S.sl = S.sl.length ∧ Sat w' [shT p S, F]))) := by
 obtain ⟨ba, bi, fp, sp, kp, ac, cc, at2, ct, hS⟩ := shT_open hS
 cases hid : S.all id with
 | none =>
  dsimp only
  refine calls_enterD Tryz.func24 rfl Tryz.ntmps24 rfl ?_
  refine wc_seq (wc_region ?_)
  refine wl_box hS rfl rfl rfl ?_
  intro sb w1 hS1
  refine wl_box hS1 rfl rfl rfl ?_
  intro db w2 hS2
  clear hS1
  refine wl_assign rfl rfl ?_
  refine wl_alloc hS2 zr_34 rfl rfl ?_
  intro eb w3 hS3
  clear hS2
  refine wl_nil (qs_seq (wc_seq ?_))
  have hS4 := hS3.drew
  refine wc_draw [0, 1, 2, 3, 4, 5, 6, 7, 8, 9, 10, 11] [9, 10] mix (by kernel_rfl) ?_
  refine vc_q rfl rfl rfl (ev_load rfl ag_24 (by first | assumption | exact hS4.cell 0 rfl rfl | exact hS4.cell 1 rfl rfl | exact hS4.cell 2 rfl rfl | exact hS4.cell 3 rfl rfl)) ?_
  refine vc_p rfl rfl rfl (fun _ => (ev_nilCheck rfl)) ?_
  refine vc_p rfl rfl rfl (fun _ => (ev_fieldAddr rfl fo_65_0)) ?_
  refine vc_q rfl rfl rfl (ev_load rfl ag_56 (by first | assumption | exact hS4.cell 0 rfl rfl | exact hS4.cell 1 rfl rfl | exact hS4.cell 2 rfl rfl | exact hS4.cell 3 rfl rfl)) ?_
  refine vc_q rfl rfl rfl (ev_load rfl ag_3 (by first | assumption | exact hS4.cell 0 rfl rfl | exact hS4.cell 1 rfl rfl | exact hS4.cell 2 rfl rfl | exact hS4.cell 3 rfl rfl)) ?_
  refine vc_q rfl rfl rfl (ev_lookupOk (k := id) 4 hS4 keysInt Tryz.underlying56 rfl rfl rfl zr_76 (u := (.agg #[intV 0, intV 0, intV 0, strV []])) (g := false) (aG_none hid) (aG_none2 hid)) ?_
  refine vc_p rfl rfl rfl (fun _ => (ev_move rfl)) ?_
  refine vc_p rfl rfl rfl (fun _ => (ev_extract rfl rfl)) ?_
  refine vc_p rfl rfl rfl (fun _ => (ev_extract rfl rfl)) ?_
  refine vc_s rfl rfl rfl rfl rfl rfl ?_
  refine wl_alloc hS4 zr_76 rfl rfl ?_
  intro xb w5 hS5
  clear hS4
  refine vc_e (.cons (.inl ⟨rfl, (ev_lookupOk (k := id) 5 hS5 keysInt Tryz.underlying56 rfl rfl rfl zr_76 (u := (.agg #[intV 0, intV 0, intV 0, strV []])) (g := false) (aG_none hid) (aG_none2 hid))⟩) (.cons (.inl ⟨rfl, (ev_load rfl ag_3 (by first | assumption | exact hS5.cell 0 rfl rfl | exact hS5.cell 1 rfl rfl | exact hS5.cell 2 rfl rfl | exact hS5.cell 3 rfl rfl | exact hS5.cell 4 rfl rfl))⟩) (.cons (.inl ⟨rfl, (ev_load rfl ag_56 (by first | assumption | exact hS5.cell 0 rfl rfl | exact hS5.cell 1 rfl rfl | exact hS5.cell 2 rfl rfl | exact hS5.cell 3 rfl rfl | exact hS5.cell 4 rfl rfl))⟩) (.cons (.inl ⟨rfl, (ev_load rfl ag_24 (by first | assumption | exact hS5.cell 0 rfl rfl | exact hS5.cell 1 rfl rfl | exact hS5.cell 2 rfl rfl | exact hS5.cell 3 rfl rfl | exact hS5.cell 4 rfl rfl))⟩) .nil)))) ?_
  refine vc_s rfl rfl rfl rfl rfl rfl ?_
  first | (refine wl_storeA hS5 rfl rfl sz_76 rfl (by first | rfl | (simp [allOne, Value.oneCell']; done) | assumption | exact hone) (i := 0) rfl (by first | decide | exact Nat.le_of_ble_eq_true rfl | (simp; done) | omega) ?_) | (refine wl_storeA hS5 rfl rfl sz_76 rfl (by first | rfl | (simp [allOne, Value.oneCell']; done) | assumption | exact hone) (i := 1) rfl (by first | decide | exact Nat.le_of_ble_eq_true rfl | (simp; done) | omega) ?_) | (refine wl_storeA hS5 rfl rfl sz_76 rfl (by first | rfl | (simp [allOne, Value.oneCell']; done) | assumption | exact hone) (i := 2) rfl (by first | decide | exact Nat.le_of_ble_eq_true rfl | (simp; done) | omega) ?_) | (refine wl_storeA hS5 rfl rfl sz_76 rfl (by first | rfl | (simp [allOne, Value.oneCell']; done) | assumption | exact hone) (i := 3) rfl (by first | decide | exact Nat.le_of_ble_eq_true rfl | (simp; done) | omega) ?_) | (refine wl_storeA hS5 rfl rfl sz_76 rfl (by first | rfl | (simp [allOne, Value.oneCell']; done) | assumption | exact hone) (i := 4) rfl (by first | decide | exact Nat.le_of_ble_eq_true rfl | (simp; done) | omega) ?_)
  intro w6 hS7; dsimp only [List.set] at hS7
  clear hS5
  refine vc_e0 (.skip (by kernel_rfl) (.skip (by kernel_rfl) (.skip (by kernel_rfl) (.skip (by kernel_rfl) .nil)))) ?_
  refine vc_p rfl rfl rfl (fun _ => (ev_assign rfl)) ?_
  refine VC.nil (qs_seq ?_)
  refine wc_sub (L' := [(7, _), (6, _), (5, _), (4, _), (3, _), (2, _)]) (.cons rfl (.cons rfl (.cons rfl (.cons rfl (.cons rfl (.cons rfl .nil)))))) ?_
  refine wc_seq (wc_block (wc_seq (wc_region (wl_move rfl rfl ?_))))
  refine wl_not rfl rfl ?_
  refine wl_assign rfl rfl (wl_nil (qs_seq ?_))
  refine wc_cond rfl (fun h8 => ?_) (fun h8 => ?_)
  ·refine wc_seq (wc_region (wl_assign rfl rfl ?_))
   first | (refine wl_store hS7 rfl rfl sz_34 (by first | rfl | assumption | exact hS7.own_one 7 rfl | exact hS7.own_one 11 rfl) (i := 0) rfl (by first | decide | exact Nat.le_of_ble_eq_true rfl | (simp; done) | omega) ?_) | (refine wl_store hS7 rfl rfl sz_34 (by first | rfl | assumption | exact hS7.own_one 7 rfl | exact hS7.own_one 11 rfl) (i := 1) rfl (by first | decide | exact Nat.le_of_ble_eq_true rfl | (simp; done) | omega) ?_) | (refine wl_store hS7 rfl rfl sz_34 (by first | rfl | assumption | exact hS7.own_one 7 rfl | exact hS7.own_one 11 rfl) (i := 2) rfl (by first | decide | exact Nat.le_of_ble_eq_true rfl | (simp; done) | omega) ?_) | (refine wl_store hS7 rfl rfl sz_34 (by first | rfl | assumption | exact hS7.own_one 7 rfl | exact hS7.own_one 11 rfl) (i := 3) rfl (by first | decide | exact Nat.le_of_ble_eq_true rfl | (simp; done) | omega) ?_) | (refine wl_store hS7 rfl rfl sz_34 (by first | rfl | assumption | exact hS7.own_one 7 rfl | exact hS7.own_one 11 rfl) (i := 4) rfl (by first | decide | exact Nat.le_of_ble_eq_true rfl | (simp; done) | omega) ?_)
   intro w9 hS10; dsimp only [List.set] at hS10
   clear hS7
   refine wl_nil (qs_seq (wc_ret (qs_block_ret (qs_then_ret ?_))))
   refine finE2 (.inr rfl) rfl (resT rfl) (resC rfl ag_34 (hS10.cell 1 rfl rfl)) ?_
   exact ⟨_, rfl, rfl, shT_shut (hS10.pick [4, 5, 6, 7, 8, 9, 10, 11, 12] rfl)⟩
  exact absurd h8 (by simp)
 | some x =>
  obtain ⟨hid1, _, hr1, hr2, _, hplc⟩ := hI.ent hid
  dsimp only
  refine calls_enterD Tryz.func24 rfl Tryz.ntmps24 rfl ?_
  refine wc_seq (wc_region ?_)
  refine wl_box hS rfl rfl rfl ?_
  intro sb w1 hS1
  refine wl_box hS1 rfl rfl rfl ?_
  intro db w2 hS2
  clear hS1
  refine wl_assign rfl rfl ?_
  refine wl_alloc hS2 zr_34 rfl rfl ?_
  intro eb w3 hS3
  clear hS2
  refine wl_nil (qs_seq (wc_seq ?_))
  have hS4 := hS3.drew
  refine wc_draw [0, 1, 2, 3, 4, 5, 6, 7, 8, 9, 10, 11] [9, 10] mix (by kernel_rfl) ?_
  refine vc_q rfl rfl rfl (ev_load rfl ag_24 (by first | assumption | exact hS4.cell 0 rfl rfl | exact hS4.cell 1 rfl rfl | exact hS4.cell 2 rfl rfl | exact hS4.cell 3 rfl rfl)) ?_
  refine vc_p rfl rfl rfl (fun _ => (ev_nilCheck rfl)) ?_
  refine vc_p rfl rfl rfl (fun _ => (ev_fieldAddr rfl fo_65_0)) ?_
  refine vc_q rfl rfl rfl (ev_load rfl ag_56 (by first | assumption | exact hS4.cell 0 rfl rfl | exact hS4.cell 1 rfl rfl | exact hS4.cell 2 rfl rfl | exact hS4.cell 3 rfl rfl)) ?_
  refine vc_q rfl rfl rfl (ev_load rfl ag_3 (by first | assumption | exact hS4.cell 0 rfl rfl | exact hS4.cell 1 rfl rfl | exact hS4.cell 2 rfl rfl | exact hS4.cell 3 rfl rfl)) ?_
  refine vc_q rfl rfl rfl (ev_lookupOk (k := id) 4 hS4 keysInt Tryz.underlying56 rfl rfl rfl zr_76 (u := (.agg #[intV x.refs, intV x.place, intV x.at_, strV (fmE x)])) (g := true) (aG_some hid) (aG_some2 hid)) ?_
  refine vc_p rfl rfl rfl (fun _ => (ev_move rfl)) ?_
  refine vc_p rfl rfl rfl (fun _ => (ev_extract rfl rfl)) ?_
  refine vc_p rfl rfl rfl (fun _ => (ev_extract rfl rfl)) ?_
  refine vc_s rfl rfl rfl rfl rfl rfl ?_
  refine wl_alloc hS4 zr_76 rfl rfl ?_
  intro xb w5 hS5
  clear hS4
  refine vc_e (.cons (.inl ⟨rfl, (ev_lookupOk (k := id) 5 hS5 keysInt Tryz.underlying56 rfl rfl rfl zr_76 (u := (.agg #[intV x.refs, intV x.place, intV x.at_, strV (fmE x)])) (g := true) (aG_some hid) (aG_some2 hid))⟩) (.cons (.inl ⟨rfl, (ev_load rfl ag_3 (by first | assumption | exact hS5.cell 0 rfl rfl | exact hS5.cell 1 rfl rfl | exact hS5.cell 2 rfl rfl | exact hS5.cell 3 rfl rfl | exact hS5.cell 4 rfl rfl))⟩) (.cons (.inl ⟨rfl, (ev_load rfl ag_56 (by first | assumption | exact hS5.cell 0 rfl rfl | exact hS5.cell 1 rfl rfl | exact hS5.cell 2 rfl rfl | exact hS5.cell 3 rfl rfl | exact hS5.cell 4 rfl rfl))⟩) (.cons (.inl ⟨rfl, (ev_load rfl ag_24 (by first | assumption | exact hS5.cell 0 rfl rfl | exact hS5.cell 1 rfl rfl | exact hS5.cell 2 rfl rfl | exact hS5.cell 3 rfl rfl | exact hS5.cell 4 rfl rfl))⟩) .nil)))) ?_
  refine vc_s rfl rfl rfl rfl rfl rfl ?_
  first | (refine wl_storeA hS5 rfl rfl sz_76 rfl (by first | rfl | (simp [allOne, Value.oneCell']; done) | assumption | exact hone) (i := 0) rfl (by first | decide | exact Nat.le_of_ble_eq_true rfl | (simp; done) | omega) ?_) | (refine wl_storeA hS5 rfl rfl sz_76 rfl (by first | rfl | (simp [allOne, Value.oneCell']; done) | assumption | exact hone) (i := 1) rfl (by first | decide | exact Nat.le_of_ble_eq_true rfl | (simp; done) | omega) ?_) | (refine wl_storeA hS5 rfl rfl sz_76 rfl (by first | rfl | (simp [allOne, Value.oneCell']; done) | assumption | exact hone) (i := 2) rfl (by first | decide | exact Nat.le_of_ble_eq_true rfl | (simp; done) | omega) ?_) | (refine wl_storeA hS5 rfl rfl sz_76 rfl (by first | rfl | (simp [allOne, Value.oneCell']; done) | assumption | exact hone) (i := 3) rfl (by first | decide | exact Nat.le_of_ble_eq_true rfl | (simp; done) | omega) ?_) | (refine wl_storeA hS5 rfl rfl sz_76 rfl (by first | rfl | (simp [allOne, Value.oneCell']; done) | assumption | exact hone) (i := 4) rfl (by first | decide | exact Nat.le_of_ble_eq_true rfl | (simp; done) | omega) ?_)
  intro w6 hS7; dsimp only [List.set] at hS7
  clear hS5
  refine vc_e0 (.skip (by kernel_rfl) (.skip (by kernel_rfl) (.skip (by kernel_rfl) (.skip (by kernel_rfl) .nil)))) ?_
  refine vc_p rfl rfl rfl (fun _ => (ev_assign rfl)) ?_
  refine VC.nil (qs_seq ?_)
  refine wc_sub (L' := [(7, _), (6, _), (5, _), (4, _), (3, _), (2, _)]) (.cons rfl (.cons rfl (.cons rfl (.cons rfl (.cons rfl (.cons rfl .nil)))))) ?_
  refine wc_seq (wc_block (wc_seq (wc_region (wl_move rfl rfl ?_))))
  refine wl_not rfl rfl ?_
  refine wl_assign rfl rfl (wl_nil (qs_seq ?_))
  refine wc_cond rfl (fun h8 => ?_) (fun h8 => ?_)
  ·exact absurd h8 (by simp)
  refine wc_seq (wc_region ?_)
  refine wl_fieldAddr rfl fo_76_1 rfl ?_
  refine wl_load rfl ag_3 (by first | assumption | exact hS7.cell 0 rfl rfl | exact hS7.cell 1 rfl rfl | exact hS7.cell 2 rfl rfl | exact hS7.cell 3 rfl rfl | exact hS7.cell 4 rfl rfl) rfl ?_
  refine wl_eql rfl rfl rfl ?_
  refine wl_assign rfl rfl (wl_nil (qs_seq ?_))
  refine wc_sub (L' := [(22, _), (7, _), (6, _), (5, _), (4, _), (3, _), (2, _)]) (.cons rfl (.cons rfl (.cons rfl (.cons rfl (.cons rfl (.cons rfl (.cons rfl .nil))))))) ?_
  refine wc_condD rfl (fun h9 => ?_) (fun h9 => ?_)
  ·have hp1 : x.place = 1 := h9
   refine wc_seq (wc_region ?_)
   refine wl_fieldAddr rfl fo_76_2 rfl ?_
   refine wl_load rfl ag_3 (by first | assumption | exact hS7.cell 0 rfl rfl | exact hS7.cell 1 rfl rfl | exact hS7.cell 2 rfl rfl | exact hS7.cell 3 rfl rfl | exact hS7.cell 4 rfl rfl) rfl ?_
   refine wl_assign rfl rfl ?_
   first | (refine wl_store hS7 rfl rfl sz_34 (by first | rfl | assumption | exact hS7.own_one 7 rfl | exact hS7.own_one 11 rfl) (i := 0) rfl (by first | decide | exact Nat.le_of_ble_eq_true rfl | (simp; done) | omega) ?_) | (refine wl_store hS7 rfl rfl sz_34 (by first | rfl | assumption | exact hS7.own_one 7 rfl | exact hS7.own_one 11 rfl) (i := 1) rfl (by first | decide | exact Nat.le_of_ble_eq_true rfl | (simp; done) | omega) ?_) | (refine wl_store hS7 rfl rfl sz_34 (by first | rfl | assumption | exact hS7.own_one 7 rfl | exact hS7.own_one 11 rfl) (i := 2) rfl (by first | decide | exact Nat.le_of_ble_eq_true rfl | (simp; done) | omega) ?_) | (refine wl_store hS7 rfl rfl sz_34 (by first | rfl | assumption | exact hS7.own_one 7 rfl | exact hS7.own_one 11 rfl) (i := 3) rfl (by first | decide | exact Nat.le_of_ble_eq_true rfl | (simp; done) | omega) ?_) | (refine wl_store hS7 rfl rfl sz_34 (by first | rfl | assumption | exact hS7.own_one 7 rfl | exact hS7.own_one 11 rfl) (i := 4) rfl (by first | decide | exact Nat.le_of_ble_eq_true rfl | (simp; done) | omega) ?_)
   intro w10 hS11; dsimp only [List.set] at hS11
   clear hS7
   refine wl_nil (qs_seq (wc_ret (qs_block_ret (qs_then_ret ?_))))
   refine finE2 (.inr rfl) rfl (resT rfl) (resC rfl ag_34 (hS11.cell 1 rfl rfl)) ?_
   exact ⟨_, rfl, .inl ⟨hp1, rfl, shT_shut (hS11.pick [4, 5, 6, 7, 8, 9, 10, 11, 12] rfl)⟩⟩
  have hp1 : x.place ≠ 1 := h9
  refine wc_skip (qs_block_normal (qs_seq (wc_seq ?_)))
  have hS12 := hS7.drew
  refine wc_draws mix ?_
  refine dr_split 2 7 rfl ?_ ?_
  ·refine dr_vc (sp := [2, 7, 9]) [0, 1, 3, 4, 5, 6, 2, 7, 8, 9] (by kernel_rfl) ?_
   refine vc_q rfl rfl rfl (ev_load rfl ag_24 (by first | assumption | exact hS12.cell 0 rfl rfl | exact hS12.cell 1 rfl rfl | exact hS12.cell 2 rfl rfl | exact hS12.cell 3 rfl rfl | exact hS12.cell 4 rfl rfl)) ?_
   refine vc_q rfl rfl rfl (ev_load rfl ag_3 (by first | assumption | exact hS12.cell 0 rfl rfl | exact hS12.cell 1 rfl rfl | exact hS12.cell 2 rfl rfl | exact hS12.cell 3 rfl rfl | exact hS12.cell 4 rfl rfl)) ?_
   refine vc_q rfl rfl rfl (ev_load rfl ag_24 (by first | assumption | exact hS12.cell 0 rfl rfl | exact hS12.cell 1 rfl rfl | exact hS12.cell 2 rfl rfl | exact hS12.cell 3 rfl rfl | exact hS12.cell 4 rfl rfl)) ?_
   refine vc_p rfl rfl rfl (fun _ => (ev_nilCheck rfl)) ?_
   refine vc_p rfl rfl rfl (fun _ => (ev_fieldAddr rfl fo_65_2)) ?_
   refine vc_q rfl rfl rfl (ev_load rfl ag_28 (by first | assumption | exact hS12.cell 0 rfl rfl | exact hS12.cell 1 rfl rfl | exact hS12.cell 2 rfl rfl | exact hS12.cell 3 rfl rfl | exact hS12.cell 4 rfl rfl)) ?_
   refine vc_s rfl rfl rfl rfl rfl rfl ?_
   have hC13 := hS12.split [4, 5, 6, 7, 8, 9, 10, 11] [false, false, false, false, true, true, true, true, true, true, true, true, false] rfl; dsimp only [selF, pickA, nthA, List.cons_append, List.nil_append] at hC13
   refine wl_call cal_21 rfl (shpageO_sp hC13 hI id (fun q => q)) rfl ?_
   rintro e w13 ⟨_, rfl, rfl, hS13⟩; refine ⟨_, rfl, ?_⟩
   replace hS13 := hS13.join rfl; dsimp only [List.dropLast, List.cons_append, List.nil_append] at hS13; clear hC13
   clear hS12
   rw [show shPg S id = x.pg by unfold shPg; rw [hid]]
   refine vc_e (.cons (.inl ⟨rfl, (ev_load rfl ag_28 (by first | assumption | exact hS13.cell 0 rfl rfl | exact hS13.cell 8 rfl rfl | exact hS13.cell 9 rfl rfl | exact hS13.cell 10 rfl rfl | exact hS13.cell 11 rfl rfl))⟩) (.cons (.inl ⟨rfl, (ev_load rfl ag_24 (by first | assumption | exact hS13.cell 0 rfl rfl | exact hS13.cell 8 rfl rfl | exact hS13.cell 9 rfl rfl | exact hS13.cell 10 rfl rfl | exact hS13.cell 11 rfl rfl))⟩) (.skip (by kernel_rfl) (.skip (by kernel_rfl) .nil)))) ?_
   refine vc_s rfl rfl rfl rfl rfl rfl ?_
   refine wl_alloc hS13 zr_28 rfl rfl ?_
   intro ob w14 hS14
   clear hS13
   refine vc_e (.cons (.inl ⟨rfl, (ev_load rfl ag_28 (by first | assumption | exact hS14.cell 0 rfl rfl | exact hS14.cell 1 rfl rfl | exact hS14.cell 9 rfl rfl | exact hS14.cell 10 rfl rfl | exact hS14.cell 11 rfl rfl | exact hS14.cell 12 rfl rfl))⟩) (.cons (.inl ⟨rfl, (ev_load rfl ag_24 (by first | assumption | exact hS14.cell 0 rfl rfl | exact hS14.cell 1 rfl rfl | exact hS14.cell 9 rfl rfl | exact hS14.cell 10 rfl rfl | exact hS14.cell 11 rfl rfl | exact hS14.cell 12 rfl rfl))⟩) (.skip (by kernel_rfl) (.skip (by kernel_rfl) .nil)))) ?_
   refine vc_p rfl rfl rfl (fun _ => (ev_assign rfl)) ?_
   refine vc_s rfl rfl rfl rfl rfl rfl ?_
   first | (refine wl_store hS14 rfl rfl sz_28 (by first | rfl | assumption | exact hS14.own_one 4 rfl | exact hS14.own_one 8 rfl) (i := 0) rfl (by first | decide | exact Nat.le_of_ble_eq_true rfl | (simp; done) | omega) ?_) | (refine wl_store hS14 rfl rfl sz_28 (by first | rfl | assumption | exact hS14.own_one 4 rfl | exact hS14.own_one 8 rfl) (i := 1) rfl (by first | decide | exact Nat.le_of_ble_eq_true rfl | (simp; done) | omega) ?_) | (refine wl_store hS14 rfl rfl sz_28 (by first | rfl | assumption | exact hS14.own_one 4 rfl | exact hS14.own_one 8 rfl) (i := 9) rfl (by first | decide | exact Nat.le_of_ble_eq_true rfl | (simp; done) | omega) ?_) | (refine wl_store hS14 rfl rfl sz_28 (by first | rfl | assumption | exact hS14.own_one 4 rfl | exact hS14.own_one 8 rfl) (i := 10) rfl (by first | decide | exact Nat.le_of_ble_eq_true rfl | (simp; done) | omega) ?_) | (refine wl_store hS14 rfl rfl sz_28 (by first | rfl | assumption | exact hS14.own_one 4 rfl | exact hS14.own_one 8 rfl) (i := 11) rfl (by first | decide | exact Nat.le_of_ble_eq_true rfl | (simp; done) | omega) ?_) | (refine wl_store hS14 rfl rfl sz_28 (by first | rfl | assumption | exact hS14.own_one 4 rfl | exact hS14.own_one 8 rfl) (i := 12) rfl (by first | decide | exact Nat.le_of_ble_eq_true rfl | (simp; done) | omega) ?_)
   intro w15 hS16; dsimp only [List.set] at hS16
   clear hS14
   refine vc_e0 (.skip (by kernel_rfl) (.skip (by kernel_rfl) (.skip (by kernel_rfl) (.skip (by kernel_rfl) .nil)))) ?_
   refine VC.nil (qs_seq ?_)
   refine wc_sub (L' := [(8, _), (9, _), (7, _), (6, _), (5, _), (4, _), (3, _), (2, _)]) (.cons rfl (.cons rfl (.cons rfl (.cons rfl (.cons rfl (.cons rfl (.cons rfl (.cons rfl .nil)))))))) ?_
   refine wc_seq (wc_seq (wc_region ?_))
   refine wl_fieldAddr rfl fo_76_1 rfl ?_
   refine wl_load rfl ag_3 (by first | assumption | exact hS16.cell 0 rfl rfl | exact hS16.cell 1 rfl rfl | exact hS16.cell 9 rfl rfl | exact hS16.cell 10 rfl rfl | exact hS16.cell 11 rfl rfl | exact hS16.cell 12 rfl rfl) rfl ?_
   refine wl_eql rfl rfl rfl ?_
   refine wl_nil (qs_seq ?_)
   refine wc_condD rfl (fun h17 => ?_) (fun h17 => ?_)
   ·have hp2 : x.place = 2 := h17
    have hS18 := hS16.drew
    refine wc_draw [0, 1, 2, 3, 4, 6, 5, 7, 8, 9, 10] [5, 7, 10] mix (by kernel_rfl) ?_
    refine vc_q rfl rfl rfl (ev_load rfl ag_24 (by first | assumption | exact hS18.cell 0 rfl rfl | exact hS18.cell 1 rfl rfl | exact hS18.cell 9 rfl rfl | exact hS18.cell 10 rfl rfl | exact hS18.cell 11 rfl rfl | exact hS18.cell 12 rfl rfl)) ?_
    refine vc_q rfl rfl rfl (ev_load rfl ag_24 (by first | assumption | exact hS18.cell 0 rfl rfl | exact hS18.cell 1 rfl rfl | exact hS18.cell 9 rfl rfl | exact hS18.cell 10 rfl rfl | exact hS18.cell 11 rfl rfl | exact hS18.cell 12 rfl rfl)) ?_
    refine vc_p rfl rfl rfl (fun _ => (ev_nilCheck rfl)) ?_
    refine vc_p rfl rfl rfl (fun _ => (ev_fieldAddr rfl fo_65_2)) ?_
    refine vc_q rfl rfl rfl (ev_load rfl ag_28 (by first | assumption | exact hS18.cell 0 rfl rfl | exact hS18.cell 1 rfl rfl | exact hS18.cell 9 rfl rfl | exact hS18.cell 10 rfl rfl | exact hS18.cell 11 rfl rfl | exact hS18.cell 12 rfl rfl)) ?_
    refine vc_p rfl rfl rfl (fun _ => (ev_makeFunc rfl)) ?_
    refine vc_s rfl rfl rfl rfl rfl rfl ?_
    have hC19 := hS18.split [] [false, false, false, false, false, false, false, false, false, false, false, false, false, false] rfl; dsimp only [selF, pickA, nthA, List.cons_append, List.nil_append] at hC19
    refine wl_call cal_55 rfl (cloneI_sp hC19 (Ent.starL (ent_row (C := inC) (l := S.cache) (by have := hI.cln; omega)) 4 rfl) (by have := hI.cln; omega)) rfl ?_
    rintro e w19 ⟨_, rfl, hS19⟩; refine ⟨_, rfl, ?_⟩
    replace hS19 := hS19.join rfl; dsimp only [List.dropLast, List.cons_append, List.nil_append] at hS19; clear hC19
    clear hS18
    have h1n := hS19.own_one 0 rfl
    refine vc_e (.skip (by kernel_rfl) (.skip (by kernel_rfl) (.cons (.inl ⟨rfl, (ev_load rfl ag_24 (by first | assumption | exact hS19.cell 1 rfl rfl | exact hS19.cell 2 rfl rfl | exact hS19.cell 10 rfl rfl | exact hS19.cell 11 rfl rfl | exact hS19.cell 12 rfl rfl | exact hS19.cell 13 rfl rfl))⟩) .nil))) ?_
    refine vc_s rfl rfl rfl rfl rfl rfl ?_
    have hC20 := hS19.split [0, 12] [true, false, false, false, false, false, false, false, false, false, false, false, true, false, false] rfl; dsimp only [selF, pickA, nthA, List.cons_append, List.nil_append] at hC20
    refine wl_call cal_59 rfl (delI_sp (eqB _ id) hC20 (by have := hI.cln; omega)) rfl ?_
    rintro e w20 ⟨_, rfl, hS20⟩; refine ⟨_, rfl, ?_⟩
    replace hS20 := hS20.join rfl; dsimp only [List.dropLast, List.cons_append, List.nil_append] at hS20; clear hC20
    clear hS19
    have h1d := hS20.own_one 0 rfl
    refine vc_e (.skip (by kernel_rfl) (.skip (by kernel_rfl) (.cons (.inl ⟨rfl, (ev_load rfl ag_24 (by first | assumption | exact hS20.cell 1 rfl rfl | exact hS20.cell 2 rfl rfl | exact hS20.cell 3 rfl rfl | exact hS20.cell 11 rfl rfl | exact hS20.cell 12 rfl rfl | exact hS20.cell 13 rfl rfl))⟩) .nil))) ?_
    refine vc_p rfl rfl rfl (fun _ => (ev_nilCheck rfl)) ?_
    refine vc_p rfl rfl rfl (fun _ => (ev_fieldAddr rfl fo_65_2)) ?_
    refine vc_s rfl rfl rfl rfl rfl rfl ?_
    first | (refine wl_store hS20 rfl rfl sz_28 (by first | rfl | assumption | exact hS20.own_one 0 rfl | exact hS20.own_one 6 rfl | exact hS20.own_one 10 rfl) (i := 1) rfl (by first | decide | exact Nat.le_of_ble_eq_true rfl | (simp; done) | omega) ?_) | (refine wl_store hS20 rfl rfl sz_28 (by first | rfl | assumption | exact hS20.own_one 0 rfl | exact hS20.own_one 6 rfl | exact hS20.own_one 10 rfl) (i := 2) rfl (by first | decide | exact Nat.le_of_ble_eq_true rfl | (simp; done) | omega) ?_) | (refine wl_store hS20 rfl rfl sz_28 (by first | rfl | assumption | exact hS20.own_one 0 rfl | exact hS20.own_one 6 rfl | exact hS20.own_one 10 rfl) (i := 3) rfl (by first | decide | exact Nat.le_of_ble_eq_true rfl | (simp; done) | omega) ?_) | (refine wl_store hS20 rfl rfl sz_28 (by first | rfl | assumption | exact hS20.own_one 0 rfl | exact hS20.own_one 6 rfl | exact hS20.own_one 10 rfl) (i := 11) rfl (by first | decide | exact Nat.le_of_ble_eq_true rfl | (simp; done) | omega) ?_) | (refine wl_store hS20 rfl rfl sz_28 (by first | rfl | assumption | exact hS20.own_one 0 rfl | exact hS20.own_one 6 rfl | exact hS20.own_one 10 rfl) (i := 12) rfl (by first | decide | exact Nat.le_of_ble_eq_true rfl | (simp; done) | omega) ?_) | (refine wl_store hS20 rfl rfl sz_28 (by first | rfl | assumption | exact hS20.own_one 0 rfl | exact hS20.own_one 6 rfl | exact hS20.own_one 10 rfl) (i := 13) rfl (by first | decide | exact Nat.le_of_ble_eq_true rfl | (simp; done) | omega) ?_)
    intro w21 hS22; dsimp only [List.set] at hS22
    clear hS20
    refine vc_e0 (.skip (by kernel_rfl) (.skip (by kernel_rfl) (.skip (by kernel_rfl) .nil))) ?_
    refine VC.nil (qs_seq ?_)
    refine wc_sub (L' := [(8, _), (9, _), (7, _), (6, _), (5, _), (4, _), (3, _), (2, _)]) (.cons rfl (.cons rfl (.cons rfl (.cons rfl (.cons rfl (.cons rfl (.cons rfl (.cons rfl .nil)))))))) ?_
    refine wc_seq ?_
    have hS23 := shT_shut (S := { S with cache := S.cache.filter (fun n => !decide (n = id)) }) (hS22.pick [3, 4, 5, 0, 7, 8, 9, 10, 12, 2, 13, 1, 11, 6, 14] rfl)
    refine wc_region ?_
    refine wl_makeFunc rfl rfl ?_
    refine wl_defer rfl ?_
    refine qsD_seq ?_
    refine wcD_seq ?_
    refine wcD_region ?_
    refine wl_load rfl ag_24 (by first | assumption | exact hS23.cell 1 rfl rfl | exact hS23.cell 2 rfl rfl | exact hS23.cell 3 rfl rfl | exact hS23.cell 4 rfl rfl | exact hS23.cell 5 rfl rfl) rfl ?_
    have hIL := off_cache hI hid hp2
    have hC24 := hS23.split [0] [true, false, false, false, false, false, false, false] rfl; dsimp only [selF, pickA, nthA, List.cons_append, List.nil_append] at hC24
    refine wl_call cal_63 rfl (shget_sp hC24 (E := one id) hIL hN) rfl ?_
    rintro e w24 ⟨_, rfl, (⟨rfl, hall, hfull, hS24⟩ | ⟨k, S1, rfl, hg, hS24⟩)⟩
    ·refine ⟨_, rfl, ?_⟩
     replace hS24 := hS24.join rfl; dsimp only [List.dropLast, List.cons_append, List.nil_append] at hS24; clear hC24
     clear hS23
     refine wl_move rfl rfl (wl_extract rfl rfl rfl (wl_extract rfl rfl rfl (wl_assign rfl rfl (wl_assign rfl rfl (wl_nil ?_)))))
     refine qsD_of ?_
     refine qsD_seq ?_
     refine wcD_sub (L' := [(7, _), (4, _), (8, _), (6, _), (5, _), (3, _), (2, _)]) (.cons rfl (.cons rfl (.cons rfl (.cons rfl (.cons rfl (.cons rfl (.cons rfl .nil))))))) ?_
     refine wcD_seq ?_
     refine wcD_seq ?_
     refine wcD_region ?_
     refine wl_move rfl rfl ?_
     refine wl_not rfl rfl ?_
     refine wl_nil ?_
     refine qsD_of ?_
     refine qsD_seq ?_
     refine wcD_cond rfl (fun h25 => ?_) (fun h25 => ?_)
     ·refine wcD_seq ?_
      refine wcD_region ?_
      refine wl_assign rfl rfl ?_
      first | (refine wl_store hS24 rfl rfl sz_34 (by first | rfl | assumption | exact hS24.own_one 6 rfl) (i := 1) rfl (by first | decide | exact Nat.le_of_ble_eq_true rfl | (simp; done) | omega) ?_) | (refine wl_store hS24 rfl rfl sz_34 (by first | rfl | assumption | exact hS24.own_one 6 rfl) (i := 2) rfl (by first | decide | exact Nat.le_of_ble_eq_true rfl | (simp; done) | omega) ?_) | (refine wl_store hS24 rfl rfl sz_34 (by first | rfl | assumption | exact hS24.own_one 6 rfl) (i := 3) rfl (by first | decide | exact Nat.le_of_ble_eq_true rfl | (simp; done) | omega) ?_) | (refine wl_store hS24 rfl rfl sz_34 (by first | rfl | assumption | exact hS24.own_one 6 rfl) (i := 4) rfl (by first | decide | exact Nat.le_of_ble_eq_true rfl | (simp; done) | omega) ?_) | (refine wl_store hS24 rfl rfl sz_34 (by first | rfl | assumption | exact hS24.own_one 6 rfl) (i := 5) rfl (by first | decide | exact Nat.le_of_ble_eq_true rfl | (simp; done) | omega) ?_)
      intro w26 hS27; dsimp only [List.set] at hS27
      clear hS24
      refine wl_nil ?_
      refine qsD_of ?_
      refine qsD_seq ?_
      refine wcD_ret ?_
      refine qsD_then_ret ?_
      obtain ⟨ba, bi, fp, sp, kp, ac, cc, at2, ct, hSo28⟩ := shT_open (hS27.pick [0, 1, 2, 3, 4, 5, 6, 7] rfl)
      have hC9 := hSo28.split [8, 9, 10, 0] [true, false, false, false, false, false, false, false, true, true, true, false, false, false, false] rfl; dsimp only [selF, pickA, nthA, List.cons_append, List.nil_append] at hC9
      refine finD (.inr rfl) cal_62 (shback_sp rfl hC9) ?_
      rintro v0 w9 hq9
      rw [if_neg (by decide)] at hq9
      replace hq9 := hq9.join rfl; dsimp only [List.dropLast, List.cons_append, List.nil_append] at hq9
      refine ⟨_, res_two rfl (resT rfl) (resC rfl ag_34 (hq9.cell 0 rfl rfl)), ?_⟩
      exact ⟨_, rfl, .inr (.inr ⟨hp2, rfl, hall, hfull, shT_shut (S := S) (hq9.pick [3, 4, 5, 13, 7, 8, 9, 10, 14] rfl)⟩)⟩
     exact absurd h25 (by simp)
    refine ⟨_, rfl, ?_⟩
    replace hS24 := hS24.join rfl; dsimp only [List.dropLast, List.cons_append, List.nil_append] at hS24; clear hC24
    clear hS23
    refine wl_move rfl rfl (wl_extract rfl rfl rfl (wl_extract rfl rfl rfl (wl_assign rfl rfl (wl_assign rfl rfl (wl_nil ?_)))))
    refine qsD_of ?_
    refine qsD_seq ?_
    refine wcD_sub (L' := [(7, _), (4, _), (8, _), (6, _), (5, _), (3, _), (2, _)]) (.cons rfl (.cons rfl (.cons rfl (.cons rfl (.cons rfl (.cons rfl (.cons rfl .nil))))))) ?_
    refine wcD_seq ?_
    refine wcD_seq ?_
    refine wcD_region ?_
    refine wl_move rfl rfl ?_
    refine wl_not rfl rfl ?_
    refine wl_nil ?_
    refine qsD_of ?_
    refine qsD_seq ?_
    refine wcD_cond rfl (fun h29 => ?_) (fun h29 => ?_)
    ·exact absurd h29 (by simp)
    refine wcD_skip ?_
    refine qsD_seq ?_
    refine wcD_seq ?_
    obtain ⟨ba, bi, fp, sp, kp, ac, cc, at2, ct, hSo30⟩ := shT_open (hS24.pick [0, 1, 2, 3, 4, 5, 6, 7] rfl)
    refine wcD_region ?_
    refine wl_load rfl ag_24 (by first | assumption | exact hSo30.cell 0 rfl rfl | exact hSo30.cell 8 rfl rfl | exact hSo30.cell 9 rfl rfl | exact hSo30.cell 10 rfl rfl | exact hSo30.cell 11 rfl rfl | exact hSo30.cell 12 rfl rfl) rfl ?_
    refine wl_nilCheck rfl rfl ?_
    refine wl_fieldAddr rfl fo_65_3 rfl ?_
    refine wl_load rfl ag_58 (by first | assumption | exact hSo30.cell 0 rfl rfl | exact hSo30.cell 8 rfl rfl | exact hSo30.cell 9 rfl rfl | exact hSo30.cell 10 rfl rfl | exact hSo30.cell 11 rfl rfl | exact hSo30.cell 12 rfl rfl) rfl ?_
    refine wl_move rfl rfl (wl_move rfl rfl ?_)
    have hkl : k < S1.fr.length := (List.getElem?_eq_some_iff.1 hg.fr).1
    have hfs : frSet (gotF S1 k).fr (k : Int) x.pg = S1.fr.set k (some x.pg) := fill_got hkl
    have hC31 := hSo30.split [4] [false, false, false, false, true, false, false, false, false, false, false, false, false, false, false] rfl; dsimp only [selF, pickA, nthA, List.cons_append, List.nil_append] at hC31
    refine wl_call cal_64 rfl (frfill_sp hC31 (k : Int) x.pg (hI.ent hid).2.2.2.2.1) rfl ?_
    rintro e w31 ⟨_, rfl, _, rfl, hS31⟩; refine ⟨_, rfl, ?_⟩
    replace hS31 := hS31.join rfl; dsimp only [List.dropLast, List.cons_append, List.nil_append] at hS31; clear hC31
    clear hSo30
    rw [hfs] at hS31
    refine wl_nil ?_
    refine qsD_of ?_
    refine qsD_seq ?_
    refine wcD_sub (L' := [(4, _), (6, _), (5, _), (3, _), (2, _)]) (.cons rfl (.cons rfl (.cons rfl (.cons rfl (.cons rfl .nil))))) ?_
    refine wcD_seq ?_
    have hS32 := hS31.drew
    refine wcD_draws mix ?_
    refine dr_vc (sp := [15, 17, 18, 20]) [0, 1, 2, 3, 4, 5, 6, 7, 8, 9, 10, 11, 12, 13, 14, 15, 16, 17, 18, 19, 20] (by kernel_rfl) ?_
    refine vc_q rfl rfl rfl (ev_load rfl ag_24 (by first | assumption | exact hS32.cell 1 rfl rfl | exact hS32.cell 8 rfl rfl | exact hS32.cell 9 rfl rfl | exact hS32.cell 10 rfl rfl | exact hS32.cell 11 rfl rfl | exact hS32.cell 12 rfl rfl)) ?_
    refine vc_p rfl rfl rfl (fun _ => (ev_nilCheck rfl)) ?_
    refine vc_p rfl rfl rfl (fun _ => (ev_fieldAddr rfl fo_65_0)) ?_
    refine vc_q rfl rfl rfl (ev_load rfl ag_56 (by first | assumption | exact hS32.cell 1 rfl rfl | exact hS32.cell 8 rfl rfl | exact hS32.cell 9 rfl rfl | exact hS32.cell 10 rfl rfl | exact hS32.cell 11 rfl rfl | exact hS32.cell 12 rfl rfl)) ?_
    refine vc_q rfl rfl rfl (ev_load rfl ag_3 (by first | assumption | exact hS32.cell 1 rfl rfl | exact hS32.cell 8 rfl rfl | exact hS32.cell 9 rfl rfl | exact hS32.cell 10 rfl rfl | exact hS32.cell 11 rfl rfl | exact hS32.cell 12 rfl rfl)) ?_
    refine vc_q rfl rfl rfl (ev_load rfl ag_24 (by first | assumption | exact hS32.cell 1 rfl rfl | exact hS32.cell 8 rfl rfl | exact hS32.cell 9 rfl rfl | exact hS32.cell 10 rfl rfl | exact hS32.cell 11 rfl rfl | exact hS32.cell 12 rfl rfl)) ?_
    refine vc_p rfl rfl rfl (fun _ => (ev_nilCheck rfl)) ?_
    refine vc_p rfl rfl rfl (fun _ => (ev_fieldAddr rfl fo_65_1)) ?_
    refine vc_q rfl rfl rfl (ev_load rfl ag_57 (by first | assumption | exact hS32.cell 1 rfl rfl | exact hS32.cell 8 rfl rfl | exact hS32.cell 9 rfl rfl | exact hS32.cell 10 rfl rfl | exact hS32.cell 11 rfl rfl | exact hS32.cell 12 rfl rfl)) ?_
    refine vc_p rfl rfl rfl (fun _ => (ev_move rfl)) ?_
    refine vc_p rfl rfl rfl (fun _ => (ev_fieldAddr rfl fo_76_0)) ?_
    refine vc_q rfl rfl rfl (ev_load rfl ag_3 (by first | assumption | exact hS32.cell 1 rfl rfl | exact hS32.cell 8 rfl rfl | exact hS32.cell 9 rfl rfl | exact hS32.cell 10 rfl rfl | exact hS32.cell 11 rfl rfl | exact hS32.cell 12 rfl rfl)) ?_
    refine vc_p rfl rfl rfl (fun _ => (ev_move rfl)) ?_
    refine vc_p rfl rfl rfl (fun _ => (ev_buildS rfl pl_76_0_1_2 asz_76 zr_76 rfl)) ?_
    refine vc_q rfl rfl rfl (ev_load rfl ag_3 (by first | assumption | exact hS32.cell 1 rfl rfl | exact hS32.cell 8 rfl rfl | exact hS32.cell 9 rfl rfl | exact hS32.cell 10 rfl rfl | exact hS32.cell 11 rfl rfl | exact hS32.cell 12 rfl rfl)) ?_
    refine vc_s rfl rfl rfl rfl rfl rfl ?_
    refine wl_mapEntry2 (k := id) 2 hS32 keysInt Tryz.underlying56 rfl rfl rfl zr_76 rfl ?_
    intro u33 c33 w33 hS33; dsimp only [List.set] at hS33
    clear hS32
    refine vc_e (.cons (.inl ⟨rfl, (ev_load rfl ag_3 (by first | assumption | exact hS33.cell 1 rfl rfl | exact hS33.cell 8 rfl rfl | exact hS33.cell 9 rfl rfl | exact hS33.cell 10 rfl rfl | exact hS33.cell 11 rfl rfl | exact hS33.cell 12 rfl rfl))⟩) (.cons (.inl ⟨rfl, (ev_load rfl ag_3 (by first | assumption | exact hS33.cell 1 rfl rfl | exact hS33.cell 8 rfl rfl | exact hS33.cell 9 rfl rfl | exact hS33.cell 10 rfl rfl | exact hS33.cell 11 rfl rfl | exact hS33.cell 12 rfl rfl))⟩) (.skip (by kernel_rfl) (.skip (by kernel_rfl) (.skip (by kernel_rfl) (.skip (by kernel_rfl) (.skip (by kernel_rfl) .nil))))))) ?_
    refine vc_p rfl rfl rfl (fun _ => (ev_extract rfl rfl)) ?_
    refine vc_s rfl rfl rfl rfl rfl rfl ?_
    have hsv34 : Value.agg #[intV x.refs, intV 1, intV (k : Nat), strV []] = shV ⟨x.refs, 1, (k : Nat), x.pg⟩ := rfl
    refine wl_entryStore2 (v := Value.agg #[intV x.refs, intV 1, intV (k : Nat), strV []]) 2 hS33 keysInt rfl rfl rfl rfl ?_
    intro w34 hS34a; dsimp only [List.set] at hS34a; have hS34 := hS34a; rw [hsv34, aG_up] at hS34
    clear hS33
    refine vc_e0 (.cons (.inl ⟨rfl, (ev_load rfl ag_3 (by first | assumption | exact hS34.cell 1 rfl rfl | exact hS34.cell 8 rfl rfl | exact hS34.cell 9 rfl rfl | exact hS34.cell 10 rfl rfl | exact hS34.cell 11 rfl rfl | exact hS34.cell 12 rfl rfl))⟩) (.skip (by kernel_rfl) (.skip (by kernel_rfl) (.skip (by kernel_rfl) (.skip (by kernel_rfl) (.skip (by kernel_rfl) (.skip (by kernel_rfl) .nil))))))) ?_
    refine vc_s rfl rfl rfl rfl rfl rfl ?_
    refine wl_mapEntry2 (k := (k : Int)) 3 hS34 keysInt Tryz.underlying57 rfl rfl rfl zr_3 rfl ?_
    intro u35 c35 w35 hS35; dsimp only [List.set] at hS35
    clear hS34
    refine vc_e (.cons (.inl ⟨rfl, (ev_load rfl ag_3 (by first | assumption | exact hS35.cell 1 rfl rfl | exact hS35.cell 8 rfl rfl | exact hS35.cell 9 rfl rfl | exact hS35.cell 10 rfl rfl | exact hS35.cell 11 rfl rfl | exact hS35.cell 12 rfl rfl))⟩) (.skip (by kernel_rfl) (.skip (by kernel_rfl) (.skip (by kernel_rfl) (.skip (by kernel_rfl) (.skip (by kernel_rfl) (.skip (by kernel_rfl) .nil))))))) ?_
    refine vc_p rfl rfl rfl (fun _ => (ev_extract rfl rfl)) ?_
    refine vc_s rfl rfl rfl rfl rfl rfl ?_
    refine wl_entryStore2 (v := intV id) 3 hS35 keysInt rfl rfl rfl rfl ?_
    intro w36 hS36a; dsimp only [List.set] at hS36a; have hS36 := hS36a; rw [gI_up] at hS36
    clear hS35
    refine vc_e0 (.skip (by kernel_rfl) (.skip (by kernel_rfl) (.skip (by kernel_rfl) (.skip (by kernel_rfl) (.skip (by kernel_rfl) (.skip (by kernel_rfl) (.skip (by kernel_rfl) .nil))))))) ?_
    refine VC.nil ?_
    refine qsD_of ?_
    refine qsD_seq ?_
    refine wcD_sub (L' := [(4, _), (5, _)]) (.cons rfl (.cons rfl .nil)) ?_
    refine wcD_seq ?_
    refine wcD_region ?_
    refine wl_move rfl rfl (wl_assign rfl rfl ?_)
    first | (refine wl_store hS36 rfl rfl sz_34 (by first | rfl | assumption | exact hS36.own_one 4 rfl | exact hS36.own_one 7 rfl | exact hS36.own_one 13 rfl) (i := 1) rfl (by first | decide | exact Nat.le_of_ble_eq_true rfl | (simp; done) | omega) ?_) | (refine wl_store hS36 rfl rfl sz_34 (by first | rfl | assumption | exact hS36.own_one 4 rfl | exact hS36.own_one 7 rfl | exact hS36.own_one 13 rfl) (i := 8) rfl (by first | decide | exact Nat.le_of_ble_eq_true rfl | (simp; done) | omega) ?_) | (refine wl_store hS36 rfl rfl sz_34 (by first | rfl | assumption | exact hS36.own_one 4 rfl | exact hS36.own_one 7 rfl | exact hS36.own_one 13 rfl) (i := 9) rfl (by first | decide | exact Nat.le_of_ble_eq_true rfl | (simp; done) | omega) ?_) | (refine wl_store hS36 rfl rfl sz_34 (by first | rfl | assumption | exact hS36.own_one 4 rfl | exact hS36.own_one 7 rfl | exact hS36.own_one 13 rfl) (i := 10) rfl (by first | decide | exact Nat.le_of_ble_eq_true rfl | (simp; done) | omega) ?_) | (refine wl_store hS36 rfl rfl sz_34 (by first | rfl | assumption | exact hS36.own_one 4 rfl | exact hS36.own_one 7 rfl | exact hS36.own_one 13 rfl) (i := 11) rfl (by first | decide | exact Nat.le_of_ble_eq_true rfl | (simp; done) | omega) ?_) | (refine wl_store hS36 rfl rfl sz_34 (by first | rfl | assumption | exact hS36.own_one 4 rfl | exact hS36.own_one 7 rfl | exact hS36.own_one 13 rfl) (i := 12) rfl (by first | decide | exact Nat.le_of_ble_eq_true rfl | (simp; done) | omega) ?_)
    intro w37 hS38; dsimp only [List.set] at hS38
    clear hS36
    refine wl_nil ?_
    refine qsD_of ?_
    refine qsD_seq ?_
    refine wcD_ret ?_
    have hC9 := hS38.split [8, 9, 10, 1] [false, true, false, false, false, false, false, false, true, true, true, false, false, false, false] rfl; dsimp only [selF, pickA, nthA, List.cons_append, List.nil_append] at hC9
    refine finD (.inr rfl) cal_62 (shback_sp rfl hC9) ?_
    rintro v0 w9 hq9
    rw [if_pos rfl] at hq9
    replace hq9 := hq9.join rfl; dsimp only [List.dropLast, List.cons_append, List.nil_append] at hq9
    refine ⟨_, res_two rfl (resT rfl) (resC rfl ag_34 (hq9.cell 0 rfl rfl)), ?_⟩
    exact ⟨_, rfl, .inr (.inl ⟨k, _, hp1, rfl, bring_of hI hid hp1 (SL := { S with cache := S.cache.filter (fun n => !decide (n = id)) }) ⟨rfl, rfl, rfl, rfl, rfl, rfl⟩ hg, shT_shut (S := onF S1 id k x.refs x.pg S1.next) (hq9.pick [3, 5, 6, 7, 4, 8, 9, 10, 14] rfl)⟩)⟩
   have hp3 : x.place = 3 := by omega
   have hS39 := hS16.drew
   refine wc_draw [0, 1, 2, 3, 4, 5, 6] [6] mix (by kernel_rfl) ?_
   refine vc_q rfl rfl rfl (ev_load rfl ag_24 (by first | assumption | exact hS39.cell 0 rfl rfl | exact hS39.cell 1 rfl rfl | exact hS39.cell 9 rfl rfl | exact hS39.cell 10 rfl rfl | exact hS39.cell 11 rfl rfl | exact hS39.cell 12 rfl rfl)) ?_
   refine vc_p rfl rfl rfl (fun _ => (ev_nilCheck rfl)) ?_
   refine vc_p rfl rfl rfl (fun _ => (ev_fieldAddr rfl fo_65_4)) ?_
   refine vc_q rfl rfl rfl (ev_load rfl ag_60 (by first | assumption | exact hS39.cell 0 rfl rfl | exact hS39.cell 1 rfl rfl | exact hS39.cell 9 rfl rfl | exact hS39.cell 10 rfl rfl | exact hS39.cell 11 rfl rfl | exact hS39.cell 12 rfl rfl)) ?_
   refine vc_p rfl rfl rfl (fun _ => (ev_fieldAddr rfl fo_76_2)) ?_
   refine vc_q rfl rfl rfl (ev_load rfl ag_3 (by first | assumption | exact hS39.cell 0 rfl rfl | exact hS39.cell 1 rfl rfl | exact hS39.cell 9 rfl rfl | exact hS39.cell 10 rfl rfl | exact hS39.cell 11 rfl rfl | exact hS39.cell 12 rfl rfl)) ?_
   refine vc_s rfl rfl rfl rfl rfl rfl ?_
   have hC40 := hS39.split [6] [false, false, false, false, false, false, true, false, false, false, false, false, false, false] rfl; dsimp only [selF, pickA, nthA, List.cons_append, List.nil_append] at hC40
   refine wl_call cal_61 rfl (swfree_sp hC40 x.at_) rfl ?_
   rintro e w40 ⟨_, rfl, rfl, hS40⟩; refine ⟨_, rfl, ?_⟩
   replace hS40 := hS40.join rfl; dsimp only [List.dropLast, List.cons_append, List.nil_append] at hS40; clear hC40
   clear hS39
   rw [(slot_has hI (fun q => q) hid hp3).2.2] at hS40
   refine vc_e (.skip (by kernel_rfl) (.skip (by kernel_rfl) (.skip (by kernel_rfl) .nil))) ?_
   refine VC.nil (qs_seq ?_)
   refine wc_sub (L' := [(8, _), (9, _), (7, _), (6, _), (5, _), (4, _), (3, _), (2, _)]) (.cons rfl (.cons rfl (.cons rfl (.cons rfl (.cons rfl (.cons rfl (.cons rfl (.cons rfl .nil)))))))) ?_
   refine wc_seq ?_
   have hS41 := shT_shut (S := { S with sl := S.sl.set x.at_.toNat [] }) (hS40.pick [2, 3, 4, 5, 6, 0, 7, 8, 10, 1, 12, 11, 9, 13] rfl)
   refine wc_region ?_
   refine wl_makeFunc rfl rfl ?_
   refine wl_defer rfl ?_
   refine qsD_seq ?_
   refine wcD_seq ?_
   refine wcD_region ?_
   refine wl_load rfl ag_24 (by first | assumption | exact hS41.cell 1 rfl rfl | exact hS41.cell 2 rfl rfl | exact hS41.cell 3 rfl rfl | exact hS41.cell 4 rfl rfl | exact hS41.cell 5 rfl rfl) rfl ?_
   have hIL := off_slot hI hid hp3
   have hC42 := hS41.split [0] [true, false, false, false, false, false, false] rfl; dsimp only [selF, pickA, nthA, List.cons_append, List.nil_append] at hC42
   refine wl_call cal_63 rfl (shget_sp hC42 (E := one id) hIL hN) rfl ?_
   rintro e w42 ⟨_, rfl, (⟨rfl, hall, hfull, hS42⟩ | ⟨k, S1, rfl, hg, hS42⟩)⟩
   ·exact absurd hfull (by have hz := usedN_lt.2 (List.mem_of_getElem? (List.getElem?_set_self (l := S.sl) (i := x.at_.toNat) (a := ([] : Bs)) (List.getElem?_eq_some_iff.1 (hI.slt (fun q => q) hid hp3).2).1)); dsimp only; omega)
   refine ⟨_, rfl, ?_⟩
   replace hS42 := hS42.join rfl; dsimp only [List.dropLast, List.cons_append, List.nil_append] at hS42; clear hC42
   clear hS41
   refine wl_move rfl rfl (wl_extract rfl rfl rfl (wl_extract rfl rfl rfl (wl_assign rfl rfl (wl_assign rfl rfl (wl_nil ?_)))))
   refine qsD_of ?_
   refine qsD_seq ?_
   refine wcD_sub (L' := [(7, _), (4, _), (8, _), (6, _), (5, _), (3, _), (2, _)]) (.cons rfl (.cons rfl (.cons rfl (.cons rfl (.cons rfl (.cons rfl (.cons rfl .nil))))))) ?_
   refine wcD_seq ?_
   refine wcD_seq ?_
   refine wcD_region ?_
   refine wl_move rfl rfl ?_
   refine wl_not rfl rfl ?_
   refine wl_nil ?_
   refine qsD_of ?_
   refine qsD_seq ?_
   refine wcD_cond rfl (fun h43 => ?_) (fun h43 => ?_)
   ·exact absurd h43 (by simp)
   refine wcD_skip ?_
   refine qsD_seq ?_
   refine wcD_seq ?_
   obtain ⟨ba, bi, fp, sp, kp, ac, cc, at2, ct, hSo44⟩ := shT_open (hS42.pick [0, 1, 2, 3, 4, 5, 6] rfl)
   refine wcD_region ?_
   refine wl_load rfl ag_24 (by first | assumption | exact hSo44.cell 0 rfl rfl | exact hSo44.cell 8 rfl rfl | exact hSo44.cell 9 rfl rfl | exact hSo44.cell 10 rfl rfl | exact hSo44.cell 11 rfl rfl | exact hSo44.cell 12 rfl rfl) rfl ?_
   refine wl_nilCheck rfl rfl ?_
   refine wl_fieldAddr rfl fo_65_3 rfl ?_
   refine wl_load rfl ag_58 (by first | assumption | exact hSo44.cell 0 rfl rfl | exact hSo44.cell 8 rfl rfl | exact hSo44.cell 9 rfl rfl | exact hSo44.cell 10 rfl rfl | exact hSo44.cell 11 rfl rfl | exact hSo44.cell 12 rfl rfl) rfl ?_
   refine wl_move rfl rfl (wl_move rfl rfl ?_)
   have hkl : k < S1.fr.length := (List.getElem?_eq_some_iff.1 hg.fr).1
   have hfs : frSet (gotF S1 k).fr (k : Int) x.pg = S1.fr.set k (some x.pg) := fill_got hkl
   have hC45 := hSo44.split [4] [false, false, false, false, true, false, false, false, false, false, false, false, false, false] rfl; dsimp only [selF, pickA, nthA, List.cons_append, List.nil_append] at hC45
   refine wl_call cal_64 rfl (frfill_sp hC45 (k : Int) x.pg (hI.ent hid).2.2.2.2.1) rfl ?_
   rintro e w45 ⟨_, rfl, _, rfl, hS45⟩; refine ⟨_, rfl, ?_⟩
   replace hS45 := hS45.join rfl; dsimp only [List.dropLast, List.cons_append, List.nil_append] at hS45; clear hC45
   clear hSo44
   rw [hfs] at hS45
   refine wl_nil ?_
   refine qsD_of ?_
   refine qsD_seq ?_
   refine wcD_sub (L' := [(4, _), (6, _), (5, _), (3, _), (2, _)]) (.cons rfl (.cons rfl (.cons rfl (.cons rfl (.cons rfl .nil))))) ?_
   refine wcD_seq ?_
   have hS46 := hS45.drew
   refine wcD_draws mix ?_
   refine dr_vc (sp := [15, 17, 18, 20]) [0, 1, 2, 3, 4, 5, 6, 7, 8, 9, 10, 11, 12, 13, 14, 15, 16, 17, 18, 19, 20] (by kernel_rfl) ?_
   refine vc_q rfl rfl rfl (ev_load rfl ag_24 (by first | assumption | exact hS46.cell 1 rfl rfl | exact hS46.cell 8 rfl rfl | exact hS46.cell 9 rfl rfl | exact hS46.cell 10 rfl rfl | exact hS46.cell 11 rfl rfl | exact hS46.cell 12 rfl rfl)) ?_
   refine vc_p rfl rfl rfl (fun _ => (ev_nilCheck rfl)) ?_
   refine vc_p rfl rfl rfl (fun _ => (ev_fieldAddr rfl fo_65_0)) ?_
   refine vc_q rfl rfl rfl (ev_load rfl ag_56 (by first | assumption | exact hS46.cell 1 rfl rfl | exact hS46.cell 8 rfl rfl | exact hS46.cell 9 rfl rfl | exact hS46.cell 10 rfl rfl | exact hS46.cell 11 rfl rfl | exact hS46.cell 12 rfl rfl)) ?_
   refine vc_q rfl rfl rfl (ev_load rfl ag_3 (by first | assumption | exact hS46.cell 1 rfl rfl | exact hS46.cell 8 rfl rfl | exact hS46.cell 9 rfl rfl | exact hS46.cell 10 rfl rfl | exact hS46.cell 11 rfl rfl | exact hS46.cell 12 rfl rfl)) ?_
   refine vc_q rfl rfl rfl (ev_load rfl ag_24 (by first | assumption | exact hS46.cell 1 rfl rfl | exact hS46.cell 8 rfl rfl | exact hS46.cell 9 rfl rfl | exact hS46.cell 10 rfl rfl | exact hS46.cell 11 rfl rfl | exact hS46.cell 12 rfl rfl)) ?_
   refine vc_p rfl rfl rfl (fun _ => (ev_nilCheck rfl)) ?_
   refine vc_p rfl rfl rfl (fun _ => (ev_fieldAddr rfl fo_65_1)) ?_
   refine vc_q rfl rfl rfl (ev_load rfl ag_57 (by first | assumption | exact hS46.cell 1 rfl rfl | exact hS46.cell 8 rfl rfl | exact hS46.cell 9 rfl rfl | exact hS46.cell 10 rfl rfl | exact hS46.cell 11 rfl rfl | exact hS46.cell 12 rfl rfl)) ?_
   refine vc_p rfl rfl rfl (fun _ => (ev_move rfl)) ?_
   refine vc_p rfl rfl rfl (fun _ => (ev_fieldAddr rfl fo_76_0)) ?_
   refine vc_q rfl rfl rfl (ev_load rfl ag_3 (by first | assumption | exact hS46.cell 1 rfl rfl | exact hS46.cell 8 rfl rfl | exact hS46.cell 9 rfl rfl | exact hS46.cell 10 rfl rfl | exact hS46.cell 11 rfl rfl | exact hS46.cell 12 rfl rfl)) ?_
   refine vc_p rfl rfl rfl (fun _ => (ev_move rfl)) ?_
   refine vc_p rfl rfl rfl (fun _ => (ev_buildS rfl pl_76_0_1_2 asz_76 zr_76 rfl)) ?_
   refine vc_q rfl rfl rfl (ev_load rfl ag_3 (by first | assumption | exact hS46.cell 1 rfl rfl | exact hS46.cell 8 rfl rfl | exact hS46.cell 9 rfl rfl | exact hS46.cell 10 rfl rfl | exact hS46.cell 11 rfl rfl | exact hS46.cell 12 rfl rfl)) ?_
   refine vc_s rfl rfl rfl rfl rfl rfl ?_
   refine wl_mapEntry2 (k := id) 2 hS46 keysInt Tryz.underlying56 rfl rfl rfl zr_76 rfl ?_
   intro u47 c47 w47 hS47; dsimp only [List.set] at hS47
   clear hS46
   refine vc_e (.cons (.inl ⟨rfl, (ev_load rfl ag_3 (by first | assumption | exact hS47.cell 1 rfl rfl | exact hS47.cell 8 rfl rfl | exact hS47.cell 9 rfl rfl | exact hS47.cell 10 rfl rfl | exact hS47.cell 11 rfl rfl | exact hS47.cell 12 rfl rfl))⟩) (.cons (.inl ⟨rfl, (ev_load rfl ag_3 (by first | assumption | exact hS47.cell 1 rfl rfl | exact hS47.cell 8 rfl rfl | exact hS47.cell 9 rfl rfl | exact hS47.cell 10 rfl rfl | exact hS47.cell 11 rfl rfl | exact hS47.cell 12 rfl rfl))⟩) (.skip (by kernel_rfl) (.skip (by kernel_rfl) (.skip (by kernel_rfl) (.skip (by kernel_rfl) (.skip (by kernel_rfl) .nil))))))) ?_
   refine vc_p rfl rfl rfl (fun _ => (ev_extract rfl rfl)) ?_
   refine vc_s rfl rfl rfl rfl rfl rfl ?_
   have hsv48 : Value.agg #[intV x.refs, intV 1, intV (k : Nat), strV []] = shV ⟨x.refs, 1, (k : Nat), x.pg⟩ := rfl
   refine wl_entryStore2 (v := Value.agg #[intV x.refs, intV 1, intV (k : Nat), strV []]) 2 hS47 keysInt rfl rfl rfl rfl ?_
   intro w48 hS48a; dsimp only [List.set] at hS48a; have hS48 := hS48a; rw [hsv48, aG_up] at hS48
   clear hS47
   refine vc_e0 (.cons (.inl ⟨rfl, (ev_load rfl ag_3 (by first | assumption | exact hS48.cell 1 rfl rfl | exact hS48.cell 8 rfl rfl | exact hS48.cell 9 rfl rfl | exact hS48.cell 10 rfl rfl | exact hS48.cell 11 rfl rfl | exact hS48.cell 12 rfl rfl))⟩) (.skip (by kernel_rfl) (.skip (by kernel_rfl) (.skip (by kernel_rfl) (.skip (by kernel_rfl) (.skip (by kernel_rfl) (.skip (by kernel_rfl) .nil))))))) ?_
   refine vc_s rfl rfl rfl rfl rfl rfl ?_
   refine wl_mapEntry2 (k := (k : Int)) 3 hS48 keysInt Tryz.underlying57 rfl rfl rfl zr_3 rfl ?_
   intro u49 c49 w49 hS49; dsimp only [List.set] at hS49
   clear hS48
   refine vc_e (.cons (.inl ⟨rfl, (ev_load rfl ag_3 (by first | assumption | exact hS49.cell 1 rfl rfl | exact hS49.cell 8 rfl rfl | exact hS49.cell 9 rfl rfl | exact hS49.cell 10 rfl rfl | exact hS49.cell 11 rfl rfl | exact hS49.cell 12 rfl rfl))⟩) (.skip (by kernel_rfl) (.skip (by kernel_rfl) (.skip (by kernel_rfl) (.skip (by kernel_rfl) (.skip (by kernel_rfl) (.skip (by kernel_rfl) .nil))))))) ?_
   refine vc_p rfl rfl rfl (fun _ => (ev_extract rfl rfl)) ?_
   refine vc_s rfl rfl rfl rfl rfl rfl ?_
   refine wl_entryStore2 (v := intV id) 3 hS49 keysInt rfl rfl rfl rfl ?_
   intro w50 hS50a; dsimp only [List.set] at hS50a; have hS50 := hS50a; rw [gI_up] at hS50
   clear hS49
   refine vc_e0 (.skip (by kernel_rfl) (.skip (by kernel_rfl) (.skip (by kernel_rfl) (.skip (by kernel_rfl) (.skip (by kernel_rfl) (.skip (by kernel_rfl) (.skip (by kernel_rfl) .nil))))))) ?_
   refine VC.nil ?_
   refine qsD_of ?_
   refine qsD_seq ?_
   refine wcD_sub (L' := [(4, _), (5, _)]) (.cons rfl (.cons rfl .nil)) ?_
   refine wcD_seq ?_
   refine wcD_region ?_
   refine wl_move rfl rfl (wl_assign rfl rfl ?_)
   first | (refine wl_store hS50 rfl rfl sz_34 (by first | rfl | assumption | exact hS50.own_one 4 rfl | exact hS50.own_one 7 rfl) (i := 1) rfl (by first | decide | exact Nat.le_of_ble_eq_true rfl | (simp; done) | omega) ?_) | (refine wl_store hS50 rfl rfl sz_34 (by first | rfl | assumption | exact hS50.own_one 4 rfl | exact hS50.own_one 7 rfl) (i := 8) rfl (by first | decide | exact Nat.le_of_ble_eq_true rfl | (simp; done) | omega) ?_) | (refine wl_store hS50 rfl rfl sz_34 (by first | rfl | assumption | exact hS50.own_one 4 rfl | exact hS50.own_one 7 rfl) (i := 9) rfl (by first | decide | exact Nat.le_of_ble_eq_true rfl | (simp; done) | omega) ?_) | (refine wl_store hS50 rfl rfl sz_34 (by first | rfl | assumption | exact hS50.own_one 4 rfl | exact hS50.own_one 7 rfl) (i := 10) rfl (by first | decide | exact Nat.le_of_ble_eq_true rfl | (simp; done) | omega) ?_) | (refine wl_store hS50 rfl rfl sz_34 (by first | rfl | assumption | exact hS50.own_one 4 rfl | exact hS50.own_one 7 rfl) (i := 11) rfl (by first | decide | exact Nat.le_of_ble_eq_true rfl | (simp; done) | omega) ?_) | (refine wl_store hS50 rfl rfl sz_34 (by first | rfl | assumption | exact hS50.own_one 4 rfl | exact hS50.own_one 7 rfl) (i := 12) rfl (by first | decide | exact Nat.le_of_ble_eq_true rfl | (simp; done) | omega) ?_)
   intro w51 hS52; dsimp only [List.set] at hS52
   clear hS50
   refine wl_nil ?_
   refine qsD_of ?_
   refine qsD_seq ?_
   refine wcD_ret ?_
   have hC9 := hS52.split [8, 9, 10, 1] [false, true, false, false, false, false, false, false, true, true, true, false, false, false] rfl; dsimp only [selF, pickA, nthA, List.cons_append, List.nil_append] at hC9
   refine finD (.inr rfl) cal_62 (shback_sp rfl hC9) ?_
   rintro v0 w9 hq9
   rw [if_pos rfl] at hq9
   replace hq9 := hq9.join rfl; dsimp only [List.dropLast, List.cons_append, List.nil_append] at hq9
   refine ⟨_, res_two rfl (resT rfl) (resC rfl ag_34 (hq9.cell 0 rfl rfl)), ?_⟩
   exact ⟨_, rfl, .inr (.inl ⟨k, _, hp1, rfl, bring_of hI hid hp1 (SL := { S with sl := S.sl.set x.at_.toNat [] }) ⟨rfl, rfl, rfl, rfl, rfl, rfl⟩ hg, shT_shut (S := onF S1 id k x.refs x.pg S1.next) (hq9.pick [3, 5, 6, 7, 4, 8, 9, 10, 13] rfl)⟩)⟩
  refine dr_vc (sp := [2, 7, 9]) [0, 1, 3, 4, 5, 6, 7, 2, 8, 9] (by kernel_rfl) ?_
  refine vc_q rfl rfl rfl (ev_load rfl ag_24 (by first | assumption | exact hS12.cell 0 rfl rfl | exact hS12.cell 1 rfl rfl | exact hS12.cell 2 rfl rfl | exact hS12.cell 3 rfl rfl | exact hS12.cell 4 rfl rfl)) ?_
  refine vc_q rfl rfl rfl (ev_load rfl ag_3 (by first | assumption | exact hS12.cell 0 rfl rfl | exact hS12.cell 1 rfl rfl | exact hS12.cell 2 rfl rfl | exact hS12.cell 3 rfl rfl | exact hS12.cell 4 rfl rfl)) ?_
  refine vc_q rfl rfl rfl (ev_load rfl ag_24 (by first | assumption | exact hS12.cell 0 rfl rfl | exact hS12.cell 1 rfl rfl | exact hS12.cell 2 rfl rfl | exact hS12.cell 3 rfl rfl | exact hS12.cell 4 rfl rfl)) ?_
  refine vc_p rfl rfl rfl (fun _ => (ev_nilCheck rfl)) ?_
  refine vc_p rfl rfl rfl (fun _ => (ev_fieldAddr rfl fo_65_2)) ?_
  refine vc_q rfl rfl rfl (ev_load rfl ag_28 (by first | assumption | exact hS12.cell 0 rfl rfl | exact hS12.cell 1 rfl rfl | exact hS12.cell 2 rfl rfl | exact hS12.cell 3 rfl rfl | exact hS12.cell 4 rfl rfl)) ?_
  refine vc_s rfl rfl rfl rfl rfl rfl ?_
  refine wl_alloc hS12 zr_28 rfl rfl ?_
  intro ob w53 hS53
  clear hS12
  refine vc_e (.cons (.inl ⟨rfl, (ev_load rfl ag_28 (by first | assumption | exact hS53.cell 0 rfl rfl | exact hS53.cell 1 rfl rfl | exact hS53.cell 2 rfl rfl | exact hS53.cell 3 rfl rfl | exact hS53.cell 4 rfl rfl | exact hS53.cell 5 rfl rfl))⟩) (.cons (.inl ⟨rfl, (ev_load rfl ag_24 (by first | assumption | exact hS53.cell 0 rfl rfl | exact hS53.cell 1 rfl rfl | exact hS53.cell 2 rfl rfl | exact hS53.cell 3 rfl rfl | exact hS53.cell 4 rfl rfl | exact hS53.cell 5 rfl rfl))⟩) (.cons (.inl ⟨rfl, (ev_load rfl ag_3 (by first | assumption | exact hS53.cell 0 rfl rfl | exact hS53.cell 1 rfl rfl | exact hS53.cell 2 rfl rfl | exact hS53.cell 3 rfl rfl | exact hS53.cell 4 rfl rfl | exact hS53.cell 5 rfl rfl))⟩) (.cons (.inl ⟨rfl, (ev_load rfl ag_24 (by first | assumption | exact hS53.cell 0 rfl rfl | exact hS53.cell 1 rfl rfl | exact hS53.cell 2 rfl rfl | exact hS53.cell 3 rfl rfl | exact hS53.cell 4 rfl rfl | exact hS53.cell 5 rfl rfl))⟩) .nil)))) ?_
  refine vc_s rfl rfl rfl rfl rfl rfl ?_
  have hC54 := hS53.split [5, 6, 7, 8, 9, 10, 11, 12] [false, false, false, false, false, true, true, true, true, true, true, true, true, false] rfl; dsimp only [selF, pickA, nthA, List.cons_append, List.nil_append] at hC54
  refine wl_call cal_21 rfl (shpageO_sp hC54 hI id (fun q => q)) rfl ?_
  rintro e w54 ⟨_, rfl, rfl, hS54⟩; refine ⟨_, rfl, ?_⟩
  replace hS54 := hS54.join rfl; dsimp only [List.dropLast, List.cons_append, List.nil_append] at hS54; clear hC54
  clear hS53
  rw [show shPg S id = x.pg by unfold shPg; rw [hid]]
  refine vc_e (.cons (.inl ⟨rfl, (ev_load rfl ag_28 (by first | assumption | exact hS54.cell 0 rfl rfl | exact hS54.cell 8 rfl rfl | exact hS54.cell 9 rfl rfl | exact hS54.cell 10 rfl rfl | exact hS54.cell 11 rfl rfl | exact hS54.cell 12 rfl rfl))⟩) (.cons (.inl ⟨rfl, (ev_load rfl ag_24 (by first | assumption | exact hS54.cell 0 rfl rfl | exact hS54.cell 8 rfl rfl | exact hS54.cell 9 rfl rfl | exact hS54.cell 10 rfl rfl | exact hS54.cell 11 rfl rfl | exact hS54.cell 12 rfl rfl))⟩) (.skip (by kernel_rfl) (.skip (by kernel_rfl) .nil)))) ?_
  refine vc_p rfl rfl rfl (fun _ => (ev_assign rfl)) ?_
  refine vc_s rfl rfl rfl rfl rfl rfl ?_
  first | (refine wl_store hS54 rfl rfl sz_28 (by first | rfl | assumption | exact hS54.own_one 3 rfl | exact hS54.own_one 7 rfl) (i := 0) rfl (by first | decide | exact Nat.le_of_ble_eq_true rfl | (simp; done) | omega) ?_) | (refine wl_store hS54 rfl rfl sz_28 (by first | rfl | assumption | exact hS54.own_one 3 rfl | exact hS54.own_one 7 rfl) (i := 8) rfl (by first | decide | exact Nat.le_of_ble_eq_true rfl | (simp; done) | omega) ?_) | (refine wl_store hS54 rfl rfl sz_28 (by first | rfl | assumption | exact hS54.own_one 3 rfl | exact hS54.own_one 7 rfl) (i := 9) rfl (by first | decide | exact Nat.le_of_ble_eq_true rfl | (simp; done) | omega) ?_) | (refine wl_store hS54 rfl rfl sz_28 (by first | rfl | assumption | exact hS54.own_one 3 rfl | exact hS54.own_one 7 rfl) (i := 10) rfl (by first | decide | exact Nat.le_of_ble_eq_true rfl | (simp; done) | omega) ?_) | (refine wl_store hS54 rfl rfl sz_28 (by first | rfl | assumption | exact hS54.own_one 3 rfl | exact hS54.own_one 7 rfl) (i := 11) rfl (by first | decide | exact Nat.le_of_ble_eq_true rfl | (simp; done) | omega) ?_) | (refine wl_store hS54 rfl rfl sz_28 (by first | rfl | assumption | exact hS54.own_one 3 rfl | exact hS54.own_one 7 rfl) (i := 12) rfl (by first | decide | exact Nat.le_of_ble_eq_true rfl | (simp; done) | omega) ?_)
  intro w55 hS56; dsimp only [List.set] at hS56
  clear hS54
  refine vc_e0 (.skip (by kernel_rfl) (.skip (by kernel_rfl) (.skip (by kernel_rfl) (.skip (by kernel_rfl) .nil)))) ?_
  refine VC.nil (qs_seq ?_)
  refine wc_sub (L' := [(8, _), (9, _), (7, _), (6, _), (5, _), (4, _), (3, _), (2, _)]) (.cons rfl (.cons rfl (.cons rfl (.cons rfl (.cons rfl (.cons rfl (.cons rfl (.cons rfl .nil)))))))) ?_
  refine wc_seq (wc_seq (wc_region ?_))
  refine wl_fieldAddr rfl fo_76_1 rfl ?_
  refine wl_load rfl ag_3 (by first | assumption | exact hS56.cell 0 rfl rfl | exact hS56.cell 8 rfl rfl | exact hS56.cell 9 rfl rfl | exact hS56.cell 10 rfl rfl | exact hS56.cell 11 rfl rfl | exact hS56.cell 12 rfl rfl) rfl ?_
  refine wl_eql rfl rfl rfl ?_
  refine wl_nil (qs_seq ?_)
  refine wc_condD rfl (fun h57 => ?_) (fun h57 => ?_)
  ·have hp2 : x.place = 2 := h57
   have hS58 := hS56.drew
   refine wc_draw [0, 1, 2, 3, 4, 6, 5, 7, 8, 9, 10] [5, 7, 10] mix (by kernel_rfl) ?_
   refine vc_q rfl rfl rfl (ev_load rfl ag_24 (by first | assumption | exact hS58.cell 0 rfl rfl | exact hS58.cell 8 rfl rfl | exact hS58.cell 9 rfl rfl | exact hS58.cell 10 rfl rfl | exact hS58.cell 11 rfl rfl | exact hS58.cell 12 rfl rfl)) ?_
   refine vc_q rfl rfl rfl (ev_load rfl ag_24 (by first | assumption | exact hS58.cell 0 rfl rfl | exact hS58.cell 8 rfl rfl | exact hS58.cell 9 rfl rfl | exact hS58.cell 10 rfl rfl | exact hS58.cell 11 rfl rfl | exact hS58.cell 12 rfl rfl)) ?_
   refine vc_p rfl rfl rfl (fun _ => (ev_nilCheck rfl)) ?_
   refine vc_p rfl rfl rfl (fun _ => (ev_fieldAddr rfl fo_65_2)) ?_
   refine vc_q rfl rfl rfl (ev_load rfl ag_28 (by first | assumption | exact hS58.cell 0 rfl rfl | exact hS58.cell 8 rfl rfl | exact hS58.cell 9 rfl rfl | exact hS58.cell 10 rfl rfl | exact hS58.cell 11 rfl rfl | exact hS58.cell 12 rfl rfl)) ?_
   refine vc_p rfl rfl rfl (fun _ => (ev_makeFunc rfl)) ?_
   refine vc_s rfl rfl rfl rfl rfl rfl ?_
   have hC59 := hS58.split [] [false, false, false, false, false, false, false, false, false, false, false, false, false, false] rfl; dsimp only [selF, pickA, nthA, List.cons_append, List.nil_append] at hC59
   refine wl_call cal_55 rfl (cloneI_sp hC59 (Ent.starL (ent_row (C := inC) (l := S.cache) (by have := hI.cln; omega)) 3 rfl) (by have := hI.cln; omega)) rfl ?_
   rintro e w59 ⟨_, rfl, hS59⟩; refine ⟨_, rfl, ?_⟩
   replace hS59 := hS59.join rfl; dsimp only [List.dropLast, List.cons_append, List.nil_append] at hS59; clear hC59
   clear hS58
   have h1n := hS59.own_one 0 rfl
   refine vc_e (.skip (by kernel_rfl) (.skip (by kernel_rfl) (.cons (.inl ⟨rfl, (ev_load rfl ag_24 (by first | assumption | exact hS59.cell 1 rfl rfl | exact hS59.cell 9 rfl rfl | exact hS59.cell 10 rfl rfl | exact hS59.cell 11 rfl rfl | exact hS59.cell 12 rfl rfl | exact hS59.cell 13 rfl rfl))⟩) .nil))) ?_
   refine vc_s rfl rfl rfl rfl rfl rfl ?_
   have hC60 := hS59.split [0, 12] [true, false, false, false, false, false, false, false, false, false, false, false, true, false, false] rfl; dsimp only [selF, pickA, nthA, List.cons_append, List.nil_append] at hC60
   refine wl_call cal_59 rfl (delI_sp (eqB _ id) hC60 (by have := hI.cln; omega)) rfl ?_
   rintro e w60 ⟨_, rfl, hS60⟩; refine ⟨_, rfl, ?_⟩
   replace hS60 := hS60.join rfl; dsimp only [List.dropLast, List.cons_append, List.nil_append] at hS60; clear hC60
   clear hS59
   have h1d := hS60.own_one 0 rfl
   refine vc_e (.skip (by kernel_rfl) (.skip (by kernel_rfl) (.cons (.inl ⟨rfl, (ev_load rfl ag_24 (by first | assumption | exact hS60.cell 1 rfl rfl | exact hS60.cell 2 rfl rfl | exact hS60.cell 10 rfl rfl | exact hS60.cell 11 rfl rfl | exact hS60.cell 12 rfl rfl | exact hS60.cell 13 rfl rfl))⟩) .nil))) ?_
   refine vc_p rfl rfl rfl (fun _ => (ev_nilCheck rfl)) ?_
   refine vc_p rfl rfl rfl (fun _ => (ev_fieldAddr rfl fo_65_2)) ?_
   refine vc_s rfl rfl rfl rfl rfl rfl ?_
   first | (refine wl_store hS60 rfl rfl sz_28 (by first | rfl | assumption | exact hS60.own_one 0 rfl | exact hS60.own_one 5 rfl | exact hS60.own_one 9 rfl) (i := 1) rfl (by first | decide | exact Nat.le_of_ble_eq_true rfl | (simp; done) | omega) ?_) | (refine wl_store hS60 rfl rfl sz_28 (by first | rfl | assumption | exact hS60.own_one 0 rfl | exact hS60.own_one 5 rfl | exact hS60.own_one 9 rfl) (i := 2) rfl (by first | decide | exact Nat.le_of_ble_eq_true rfl | (simp; done) | omega) ?_) | (refine wl_store hS60 rfl rfl sz_28 (by first | rfl | assumption | exact hS60.own_one 0 rfl | exact hS60.own_one 5 rfl | exact hS60.own_one 9 rfl) (i := 10) rfl (by first | decide | exact Nat.le_of_ble_eq_true rfl | (simp; done) | omega) ?_) | (refine wl_store hS60 rfl rfl sz_28 (by first | rfl | assumption | exact hS60.own_one 0 rfl | exact hS60.own_one 5 rfl | exact hS60.own_one 9 rfl) (i := 11) rfl (by first | decide | exact Nat.le_of_ble_eq_true rfl | (simp; done) | omega) ?_) | (refine wl_store hS60 rfl rfl sz_28 (by first | rfl | assumption | exact hS60.own_one 0 rfl | exact hS60.own_one 5 rfl | exact hS60.own_one 9 rfl) (i := 12) rfl (by first | decide | exact Nat.le_of_ble_eq_true rfl | (simp; done) | omega) ?_) | (refine wl_store hS60 rfl rfl sz_28 (by first | rfl | assumption | exact hS60.own_one 0 rfl | exact hS60.own_one 5 rfl | exact hS60.own_one 9 rfl) (i := 13) rfl (by first | decide | exact Nat.le_of_ble_eq_true rfl | (simp; done) | omega) ?_)
   intro w61 hS62; dsimp only [List.set] at hS62
   clear hS60
   refine vc_e0 (.skip (by kernel_rfl) (.skip (by kernel_rfl) (.skip (by kernel_rfl) .nil))) ?_
   refine VC.nil (qs_seq ?_)
   refine wc_sub (L' := [(8, _), (9, _), (7, _), (6, _), (5, _), (4, _), (3, _), (2, _)]) (.cons rfl (.cons rfl (.cons rfl (.cons rfl (.cons rfl (.cons rfl (.cons rfl (.cons rfl .nil)))))))) ?_
   refine wc_seq ?_
   have hS63 := shT_shut (S := { S with cache := S.cache.filter (fun n => !decide (n = id)) }) (hS62.pick [2, 3, 4, 0, 6, 7, 8, 9, 12, 10, 13, 1, 11, 5, 14] rfl)
   refine wc_region ?_
   refine wl_makeFunc rfl rfl ?_
   refine wl_defer rfl ?_
   refine qsD_seq ?_
   refine wcD_seq ?_
   refine wcD_region ?_
   refine wl_load rfl ag_24 (by first | assumption | exact hS63.cell 1 rfl rfl | exact hS63.cell 2 rfl rfl | exact hS63.cell 3 rfl rfl | exact hS63.cell 4 rfl rfl | exact hS63.cell 5 rfl rfl) rfl ?_
   have hIL := off_cache hI hid hp2
   have hC64 := hS63.split [0] [true, false, false, false, false, false, false, false] rfl; dsimp only [selF, pickA, nthA, List.cons_append, List.nil_append] at hC64
   refine wl_call cal_63 rfl (shget_sp hC64 (E := one id) hIL hN) rfl ?_
   rintro e w64 ⟨_, rfl, (⟨rfl, hall, hfull, hS64⟩ | ⟨k, S1, rfl, hg, hS64⟩)⟩
   ·refine ⟨_, rfl, ?_⟩
    replace hS64 := hS64.join rfl; dsimp only [List.dropLast, List.cons_append, List.nil_append] at hS64; clear hC64
    clear hS63
    refine wl_move rfl rfl (wl_extract rfl rfl rfl (wl_extract rfl rfl rfl (wl_assign rfl rfl (wl_assign rfl rfl (wl_nil ?_)))))
    refine qsD_of ?_
    refine qsD_seq ?_
    refine wcD_sub (L' := [(7, _), (4, _), (8, _), (6, _), (5, _), (3, _), (2, _)]) (.cons rfl (.cons rfl (.cons rfl (.cons rfl (.cons rfl (.cons rfl (.cons rfl .nil))))))) ?_
    refine wcD_seq ?_
    refine wcD_seq ?_
    refine wcD_region ?_
    refine wl_move rfl rfl ?_
    refine wl_not rfl rfl ?_
    refine wl_nil ?_
    refine qsD_of ?_
    refine qsD_seq ?_
    refine wcD_cond rfl (fun h65 => ?_) (fun h65 => ?_)
    ·refine wcD_seq ?_
     refine wcD_region ?_
     refine wl_assign rfl rfl ?_
     first | (refine wl_store hS64 rfl rfl sz_34 (by first | rfl | assumption | exact hS64.own_one 6 rfl) (i := 1) rfl (by first | decide | exact Nat.le_of_ble_eq_true rfl | (simp; done) | omega) ?_) | (refine wl_store hS64 rfl rfl sz_34 (by first | rfl | assumption | exact hS64.own_one 6 rfl) (i := 2) rfl (by first | decide | exact Nat.le_of_ble_eq_true rfl | (simp; done) | omega) ?_) | (refine wl_store hS64 rfl rfl sz_34 (by first | rfl | assumption | exact hS64.own_one 6 rfl) (i := 3) rfl (by first | decide | exact Nat.le_of_ble_eq_true rfl | (simp; done) | omega) ?_) | (refine wl_store hS64 rfl rfl sz_34 (by first | rfl | assumption | exact hS64.own_one 6 rfl) (i := 4) rfl (by first | decide | exact Nat.le_of_ble_eq_true rfl | (simp; done) | omega) ?_) | (refine wl_store hS64 rfl rfl sz_34 (by first | rfl | assumption | exact hS64.own_one 6 rfl) (i := 5) rfl (by first | decide | exact Nat.le_of_ble_eq_true rfl | (simp; done) | omega) ?_)
     intro w66 hS67; dsimp only [List.set] at hS67
     clear hS64
     refine wl_nil ?_
     refine qsD_of ?_
     refine qsD_seq ?_
     refine wcD_ret ?_
     refine qsD_then_ret ?_
     obtain ⟨ba, bi, fp, sp, kp, ac, cc, at2, ct, hSo68⟩ := shT_open (hS67.pick [0, 1, 2, 3, 4, 5, 6, 7] rfl)
     have hC9 := hSo68.split [8, 9, 10, 0] [true, false, false, false, false, false, false, false, true, true, true, false, false, false, false] rfl; dsimp only [selF, pickA, nthA, List.cons_append, List.nil_append] at hC9
     refine finD (.inr rfl) cal_62 (shback_sp rfl hC9) ?_
     rintro v0 w9 hq9
     rw [if_neg (by decide)] at hq9
     replace hq9 := hq9.join rfl; dsimp only [List.dropLast, List.cons_append, List.nil_append] at hq9
     refine ⟨_, res_two rfl (resT rfl) (resC rfl ag_34 (hq9.cell 0 rfl rfl)), ?_⟩
     exact ⟨_, rfl, .inr (.inr ⟨hp2, rfl, hall, hfull, shT_shut (S := S) (hq9.pick [3, 4, 5, 13, 7, 8, 9, 10, 14] rfl)⟩)⟩
    exact absurd h65 (by simp)
   refine ⟨_, rfl, ?_⟩
   replace hS64 := hS64.join rfl; dsimp only [List.dropLast, List.cons_append, List.nil_append] at hS64; clear hC64
   clear hS63
   refine wl_move rfl rfl (wl_extract rfl rfl rfl (wl_extract rfl rfl rfl (wl_assign rfl rfl (wl_assign rfl rfl (wl_nil ?_)))))
   refine qsD_of ?_
   refine qsD_seq ?_
   refine wcD_sub (L' := [(7, _), (4, _), (8, _), (6, _), (5, _), (3, _), (2, _)]) (.cons rfl (.cons rfl (.cons rfl (.cons rfl (.cons rfl (.cons rfl (.cons rfl .nil))))))) ?_
   refine wcD_seq ?_
   refine wcD_seq ?_
   refine wcD_region ?_
   refine wl_move rfl rfl ?_
   refine wl_not rfl rfl ?_
   refine wl_nil ?_
   refine qsD_of ?_
   refine qsD_seq ?_
   refine wcD_cond rfl (fun h69 => ?_) (fun h69 => ?_)
   ·exact absurd h69 (by simp)
   refine wcD_skip ?_
   refine qsD_seq ?_
   refine wcD_seq ?_
   obtain ⟨ba, bi, fp, sp, kp, ac, cc, at2, ct, hSo70⟩ := shT_open (hS64.pick [0, 1, 2, 3, 4, 5, 6, 7] rfl)
   refine wcD_region ?_
   refine wl_load rfl ag_24 (by first | assumption | exact hSo70.cell 0 rfl rfl | exact hSo70.cell 8 rfl rfl | exact hSo70.cell 9 rfl rfl | exact hSo70.cell 10 rfl rfl | exact hSo70.cell 11 rfl rfl | exact hSo70.cell 12 rfl rfl) rfl ?_
   refine wl_nilCheck rfl rfl ?_
   refine wl_fieldAddr rfl fo_65_3 rfl ?_
   refine wl_load rfl ag_58 (by first | assumption | exact hSo70.cell 0 rfl rfl | exact hSo70.cell 8 rfl rfl | exact hSo70.cell 9 rfl rfl | exact hSo70.cell 10 rfl rfl | exact hSo70.cell 11 rfl rfl | exact hSo70.cell 12 rfl rfl) rfl ?_
   refine wl_move rfl rfl (wl_move rfl rfl ?_)
   have hkl : k < S1.fr.length := (List.getElem?_eq_some_iff.1 hg.fr).1
   have hfs : frSet (gotF S1 k).fr (k : Int) x.pg = S1.fr.set k (some x.pg) := fill_got hkl
   have hC71 := hSo70.split [4] [false, false, false, false, true, false, false, false, false, false, false, false, false, false, false] rfl; dsimp only [selF, pickA, nthA, List.cons_append, List.nil_append] at hC71
   refine wl_call cal_64 rfl (frfill_sp hC71 (k : Int) x.pg (hI.ent hid).2.2.2.2.1) rfl ?_
   rintro e w71 ⟨_, rfl, _, rfl, hS71⟩; refine ⟨_, rfl, ?_⟩
   replace hS71 := hS71.join rfl; dsimp only [List.dropLast, List.cons_append, List.nil_append] at hS71; clear hC71
   clear hSo70
   rw [hfs] at hS71
   refine wl_nil ?_
   refine qsD_of ?_
   refine qsD_seq ?_
   refine wcD_sub (L' := [(4, _), (6, _), (5, _), (3, _), (2, _)]) (.cons rfl (.cons rfl (.cons rfl (.cons rfl (.cons rfl .nil))))) ?_
   refine wcD_seq ?_
   have hS72 := hS71.drew
   refine wcD_draws mix ?_
   refine dr_vc (sp := [15, 17, 18, 20]) [0, 1, 2, 3, 4, 5, 6, 7, 8, 9, 10, 11, 12, 13, 14, 15, 16, 17, 18, 19, 20] (by kernel_rfl) ?_
   refine vc_q rfl rfl rfl (ev_load rfl ag_24 (by first | assumption | exact hS72.cell 1 rfl rfl | exact hS72.cell 8 rfl rfl | exact hS72.cell 9 rfl rfl | exact hS72.cell 10 rfl rfl | exact hS72.cell 11 rfl rfl | exact hS72.cell 12 rfl rfl)) ?_
   refine vc_p rfl rfl rfl (fun _ => (ev_nilCheck rfl)) ?_
   refine vc_p rfl rfl rfl (fun _ => (ev_fieldAddr rfl fo_65_0)) ?_
   refine vc_q rfl rfl rfl (ev_load rfl ag_56 (by first | assumption | exact hS72.cell 1 rfl rfl | exact hS72.cell 8 rfl rfl | exact hS72.cell 9 rfl rfl | exact hS72.cell 10 rfl rfl | exact hS72.cell 11 rfl rfl | exact hS72.cell 12 rfl rfl)) ?_
   refine vc_q rfl rfl rfl (ev_load rfl ag_3 (by first | assumption | exact hS72.cell 1 rfl rfl | exact hS72.cell 8 rfl rfl | exact hS72.cell 9 rfl rfl | exact hS72.cell 10 rfl rfl | exact hS72.cell 11 rfl rfl | exact hS72.cell 12 rfl rfl)) ?_
   refine vc_q rfl rfl rfl (ev_load rfl ag_24 (by first | assumption | exact hS72.cell 1 rfl rfl | exact hS72.cell 8 rfl rfl | exact hS72.cell 9 rfl rfl | exact hS72.cell 10 rfl rfl | exact hS72.cell 11 rfl rfl | exact hS72.cell 12 rfl rfl)) ?_
   refine vc_p rfl rfl rfl (fun _ => (ev_nilCheck rfl)) ?_
   refine vc_p rfl rfl rfl (fun _ => (ev_fieldAddr rfl fo_65_1)) ?_
   refine vc_q rfl rfl rfl (ev_load rfl ag_57 (by first | assumption | exact hS72.cell 1 rfl rfl | exact hS72.cell 8 rfl rfl | exact hS72.cell 9 rfl rfl | exact hS72.cell 10 rfl rfl | exact hS72.cell 11 rfl rfl | exact hS72.cell 12 rfl rfl)) ?_
   refine vc_p rfl rfl rfl (fun _ => (ev_move rfl)) ?_
   refine vc_p rfl rfl rfl (fun _ => (ev_fieldAddr rfl fo_76_0)) ?_
   refine vc_q rfl rfl rfl (ev_load rfl ag_3 (by first | assumption | exact hS72.cell 1 rfl rfl | exact hS72.cell 8 rfl rfl | exact hS72.cell 9 rfl rfl | exact hS72.cell 10 rfl rfl | exact hS72.cell 11 rfl rfl | exact hS72.cell 12 rfl rfl)) ?_
   refine vc_p rfl rfl rfl (fun _ => (ev_move rfl)) ?_
   refine vc_p rfl rfl rfl (fun _ => (ev_buildS rfl pl_76_0_1_2 asz_76 zr_76 rfl)) ?_
   refine vc_q rfl rfl rfl (ev_load rfl ag_3 (by first | assumption | exact hS72.cell 1 rfl rfl | exact hS72.cell 8 rfl rfl | exact hS72.cell 9 rfl rfl | exact hS72.cell 10 rfl rfl | exact hS72.cell 11 rfl rfl | exact hS72.cell 12 rfl rfl)) ?_
   refine vc_s rfl rfl rfl rfl rfl rfl ?_
   refine wl_mapEntry2 (k := id) 2 hS72 keysInt Tryz.underlying56 rfl rfl rfl zr_76 rfl ?_
   intro u73 c73 w73 hS73; dsimp only [List.set] at hS73
   clear hS72
   refine vc_e (.cons (.inl ⟨rfl, (ev_load rfl ag_3 (by first | assumption | exact hS73.cell 1 rfl rfl | exact hS73.cell 8 rfl rfl | exact hS73.cell 9 rfl rfl | exact hS73.cell 10 rfl rfl | exact hS73.cell 11 rfl rfl | exact hS73.cell 12 rfl rfl))⟩) (.cons (.inl ⟨rfl, (ev_load rfl ag_3 (by first | assumption | exact hS73.cell 1 rfl rfl | exact hS73.cell 8 rfl rfl | exact hS73.cell 9 rfl rfl | exact hS73.cell 10 rfl rfl | exact hS73.cell 11 rfl rfl | exact hS73.cell 12 rfl rfl))⟩) (.skip (by kernel_rfl) (.skip (by kernel_rfl) (.skip (by kernel_rfl) (.skip (by kernel_rfl) (.skip (by kernel_rfl) .nil))))))) ?_
   refine vc_p rfl rfl rfl (fun _ => (ev_extract rfl rfl)) ?_
   refine vc_s rfl rfl rfl rfl rfl rfl ?_
   have hsv74 : Value.agg #[intV x.refs, intV 1, intV (k : Nat), strV []] = shV ⟨x.refs, 1, (k : Nat), x.pg⟩ := rfl
   refine wl_entryStore2 (v := Value.agg #[intV x.refs, intV 1, intV (k : Nat), strV []]) 2 hS73 keysInt rfl rfl rfl rfl ?_
   intro w74 hS74a; dsimp only [List.set] at hS74a; have hS74 := hS74a; rw [hsv74, aG_up] at hS74
   clear hS73
   refine vc_e0 (.cons (.inl ⟨rfl, (ev_load rfl ag_3 (by first | assumption | exact hS74.cell 1 rfl rfl | exact hS74.cell 8 rfl rfl | exact hS74.cell 9 rfl rfl | exact hS74.cell 10 rfl rfl | exact hS74.cell 11 rfl rfl | exact hS74.cell 12 rfl rfl))⟩) (.skip (by kernel_rfl) (.skip (by kernel_rfl) (.skip (by kernel_rfl) (.skip (by kernel_rfl) (.skip (by kernel_rfl) (.skip (by kernel_rfl) .nil))))))) ?_
   refine vc_s rfl rfl rfl rfl rfl rfl ?_
   refine wl_mapEntry2 (k := (k : Int)) 3 hS74 keysInt Tryz.underlying57 rfl rfl rfl zr_3 rfl ?_
   intro u75 c75 w75 hS75; dsimp only [List.set] at hS75
   clear hS74
   refine vc_e (.cons (.inl ⟨rfl, (ev_load rfl ag_3 (by first | assumption | exact hS75.cell 1 rfl rfl | exact hS75.cell 8 rfl rfl | exact hS75.cell 9 rfl rfl | exact hS75.cell 10 rfl rfl | exact hS75.cell 11 rfl rfl | exact hS75.cell 12 rfl rfl))⟩) (.skip (by kernel_rfl) (.skip (by kernel_rfl) (.skip (by kernel_rfl) (.skip (by kernel_rfl) (.skip (by kernel_rfl) (.skip (by kernel_rfl) .nil))))))) ?_
   refine vc_p rfl rfl rfl (fun _ => (ev_extract rfl rfl)) ?_
   refine vc_s rfl rfl rfl rfl rfl rfl ?_
   refine wl_entryStore2 (v := intV id) 3 hS75 keysInt rfl rfl rfl rfl ?_
   intro w76 hS76a; dsimp only [List.set] at hS76a; have hS76 := hS76a; rw [gI_up] at hS76
   clear hS75
   refine vc_e0 (.skip (by kernel_rfl) (.skip (by kernel_rfl) (.skip (by kernel_rfl) (.skip (by kernel_rfl) (.skip (by kernel_rfl) (.skip (by kernel_rfl) (.skip (by kernel_rfl) .nil))))))) ?_
   refine VC.nil ?_
   refine qsD_of ?_
   refine qsD_seq ?_
   refine wcD_sub (L' := [(4, _), (5, _)]) (.cons rfl (.cons rfl .nil)) ?_
   refine wcD_seq ?_
   refine wcD_region ?_
   refine wl_move rfl rfl (wl_assign rfl rfl ?_)
   first | (refine wl_store hS76 rfl rfl sz_34 (by first | rfl | assumption | exact hS76.own_one 4 rfl | exact hS76.own_one 7 rfl | exact hS76.own_one 13 rfl) (i := 1) rfl (by first | decide | exact Nat.le_of_ble_eq_true rfl | (simp; done) | omega) ?_) | (refine wl_store hS76 rfl rfl sz_34 (by first | rfl | assumption | exact hS76.own_one 4 rfl | exact hS76.own_one 7 rfl | exact hS76.own_one 13 rfl) (i := 8) rfl (by first | decide | exact Nat.le_of_ble_eq_true rfl | (simp; done) | omega) ?_) | (refine wl_store hS76 rfl rfl sz_34 (by first | rfl | assumption | exact hS76.own_one 4 rfl | exact hS76.own_one 7 rfl | exact hS76.own_one 13 rfl) (i := 9) rfl (by first | decide | exact Nat.le_of_ble_eq_true rfl | (simp; done) | omega) ?_) | (refine wl_store hS76 rfl rfl sz_34 (by first | rfl | assumption | exact hS76.own_one 4 rfl | exact hS76.own_one 7 rfl | exact hS76.own_one 13 rfl) (i := 10) rfl (by first | decide | exact Nat.le_of_ble_eq_true rfl | (simp; done) | omega) ?_) | (refine wl_store hS76 rfl rfl sz_34 (by first | rfl | assumption | exact hS76.own_one 4 rfl | exact hS76.own_one 7 rfl | exact hS76.own_one 13 rfl) (i := 11) rfl (by first | decide | exact Nat.le_of_ble_eq_true rfl | (simp; done) | omega) ?_) | (refine wl_store hS76 rfl rfl sz_34 (by first | rfl | assumption | exact hS76.own_one 4 rfl | exact hS76.own_one 7 rfl | exact hS76.own_one 13 rfl) (i := 12) rfl (by first | decide | exact Nat.le_of_ble_eq_true rfl | (simp; done) | omega) ?_)
   intro w77 hS78; dsimp only [List.set] at hS78
   clear hS76
   refine wl_nil ?_
   refine qsD_of ?_
   refine qsD_seq ?_
   refine wcD_ret ?_
   have hC9 := hS78.split [8, 9, 10, 1] [false, true, false, false, false, false, false, false, true, true, true, false, false, false, false] rfl; dsimp only [selF, pickA, nthA, List.cons_append, List.nil_append] at hC9
   refine finD (.inr rfl) cal_62 (shback_sp rfl hC9) ?_
   rintro v0 w9 hq9
   rw [if_pos rfl] at hq9
   replace hq9 := hq9.join rfl; dsimp only [List.dropLast, List.cons_append, List.nil_append] at hq9
   refine ⟨_, res_two rfl (resT rfl) (resC rfl ag_34 (hq9.cell 0 rfl rfl)), ?_⟩
   exact ⟨_, rfl, .inr (.inl ⟨k, _, hp1, rfl, bring_of hI hid hp1 (SL := { S with cache := S.cache.filter (fun n => !decide (n = id)) }) ⟨rfl, rfl, rfl, rfl, rfl, rfl⟩ hg, shT_shut (S := onF S1 id k x.refs x.pg S1.next) (hq9.pick [3, 5, 6, 7, 4, 8, 9, 10, 14] rfl)⟩)⟩
  have hp3 : x.place = 3 := by omega
  have hS79 := hS56.drew
  refine wc_draw [0, 1, 2, 3, 4, 5, 6] [6] mix (by kernel_rfl) ?_
  refine vc_q rfl rfl rfl (ev_load rfl ag_24 (by first | assumption | exact hS79.cell 0 rfl rfl | exact hS79.cell 8 rfl rfl | exact hS79.cell 9 rfl rfl | exact hS79.cell 10 rfl rfl | exact hS79.cell 11 rfl rfl | exact hS79.cell 12 rfl rfl)) ?_
  refine vc_p rfl rfl rfl (fun _ => (ev_nilCheck rfl)) ?_
  refine vc_p rfl rfl rfl (fun _ => (ev_fieldAddr rfl fo_65_4)) ?_
  refine vc_q rfl rfl rfl (ev_load rfl ag_60 (by first | assumption | exact hS79.cell 0 rfl rfl | exact hS79.cell 8 rfl rfl | exact hS79.cell 9 rfl rfl | exact hS79.cell 10 rfl rfl | exact hS79.cell 11 rfl rfl | exact hS79.cell 12 rfl rfl)) ?_
  refine vc_p rfl rfl rfl (fun _ => (ev_fieldAddr rfl fo_76_2)) ?_
  refine vc_q rfl rfl rfl (ev_load rfl ag_3 (by first | assumption | exact hS79.cell 0 rfl rfl | exact hS79.cell 8 rfl rfl | exact hS79.cell 9 rfl rfl | exact hS79.cell 10 rfl rfl | exact hS79.cell 11 rfl rfl | exact hS79.cell 12 rfl rfl)) ?_
  refine vc_s rfl rfl rfl rfl rfl rfl ?_
  have hC80 := hS79.split [5] [false, false, false, false, false, true, false, false, false, false, false, false, false, false] rfl; dsimp only [selF, pickA, nthA, List.cons_append, List.nil_append] at hC80
  refine wl_call cal_61 rfl (swfree_sp hC80 x.at_) rfl ?_
  rintro e w80 ⟨_, rfl, rfl, hS80⟩; refine ⟨_, rfl, ?_⟩
  replace hS80 := hS80.join rfl; dsimp only [List.dropLast, List.cons_append, List.nil_append] at hS80; clear hC80
  clear hS79
  rw [(slot_has hI (fun q => q) hid hp3).2.2] at hS80
  refine vc_e (.skip (by kernel_rfl) (.skip (by kernel_rfl) (.skip (by kernel_rfl) .nil))) ?_
  refine VC.nil (qs_seq ?_)
  refine wc_sub (L' := [(8, _), (9, _), (7, _), (6, _), (5, _), (4, _), (3, _), (2, _)]) (.cons rfl (.cons rfl (.cons rfl (.cons rfl (.cons rfl (.cons rfl (.cons rfl (.cons rfl .nil)))))))) ?_
  refine wc_seq ?_
  have hS81 := shT_shut (S := { S with sl := S.sl.set x.at_.toNat [] }) (hS80.pick [1, 2, 3, 4, 5, 0, 6, 7, 10, 8, 12, 11, 9, 13] rfl)
  refine wc_region ?_
  refine wl_makeFunc rfl rfl ?_
  refine wl_defer rfl ?_
  refine qsD_seq ?_
  refine wcD_seq ?_
  refine wcD_region ?_
  refine wl_load rfl ag_24 (by first | assumption | exact hS81.cell 1 rfl rfl | exact hS81.cell 2 rfl rfl | exact hS81.cell 3 rfl rfl | exact hS81.cell 4 rfl rfl | exact hS81.cell 5 rfl rfl) rfl ?_
  have hIL := off_slot hI hid hp3
  have hC82 := hS81.split [0] [true, false, false, false, false, false, false] rfl; dsimp only [selF, pickA, nthA, List.cons_append, List.nil_append] at hC82
  refine wl_call cal_63 rfl (shget_sp hC82 (E := one id) hIL hN) rfl ?_
  rintro e w82 ⟨_, rfl, (⟨rfl, hall, hfull, hS82⟩ | ⟨k, S1, rfl, hg, hS82⟩)⟩
  ·exact absurd hfull (by have hz := usedN_lt.2 (List.mem_of_getElem? (List.getElem?_set_self (l := S.sl) (i := x.at_.toNat) (a := ([] : Bs)) (List.getElem?_eq_some_iff.1 (hI.slt (fun q => q) hid hp3).2).1)); dsimp only; omega)
  refine ⟨_, rfl, ?_⟩
  replace hS82 := hS82.join rfl; dsimp only [List.dropLast, List.cons_append, List.nil_append] at hS82; clear hC82
  clear hS81
  refine wl_move rfl rfl (wl_extract rfl rfl rfl (wl_extract rfl rfl rfl (wl_assign rfl rfl (wl_assign rfl rfl (wl_nil ?_)))))
  refine qsD_of ?_
  refine qsD_seq ?_
  refine wcD_sub (L' := [(7, _), (4, _), (8, _), (6, _), (5, _), (3, _), (2, _)]) (.cons rfl (.cons rfl (.cons rfl (.cons rfl (.cons rfl (.cons rfl (.cons rfl .nil))))))) ?_
  refine wcD_seq ?_
  refine wcD_seq ?_
  refine wcD_region ?_
  refine wl_move rfl rfl ?_
  refine wl_not rfl rfl ?_
  refine wl_nil ?_
  refine qsD_of ?_
  refine qsD_seq ?_
  refine wcD_cond rfl (fun h83 => ?_) (fun h83 => ?_)
  ·exact absurd h83 (by simp)
  refine wcD_skip ?_
  refine qsD_seq ?_
  refine wcD_seq ?_
  obtain ⟨ba, bi, fp, sp, kp, ac, cc, at2, ct, hSo84⟩ := shT_open (hS82.pick [0, 1, 2, 3, 4, 5, 6] rfl)
  refine wcD_region ?_
  refine wl_load rfl ag_24 (by first | assumption | exact hSo84.cell 0 rfl rfl | exact hSo84.cell 8 rfl rfl | exact hSo84.cell 9 rfl rfl | exact hSo84.cell 10 rfl rfl | exact hSo84.cell 11 rfl rfl | exact hSo84.cell 12 rfl rfl) rfl ?_
  refine wl_nilCheck rfl rfl ?_
  refine wl_fieldAddr rfl fo_65_3 rfl ?_
  refine wl_load rfl ag_58 (by first | assumption | exact hSo84.cell 0 rfl rfl | exact hSo84.cell 8 rfl rfl | exact hSo84.cell 9 rfl rfl | exact hSo84.cell 10 rfl rfl | exact hSo84.cell 11 rfl rfl | exact hSo84.cell 12 rfl rfl) rfl ?_
  refine wl_move rfl rfl (wl_move rfl rfl ?_)
  have hkl : k < S1.fr.length := (List.getElem?_eq_some_iff.1 hg.fr).1
  have hfs : frSet (gotF S1 k).fr (k : Int) x.pg = S1.fr.set k (some x.pg) := fill_got hkl
  have hC85 := hSo84.split [4] [false, false, false, false, true, false, false, false, false, false, false, false, false, false] rfl; dsimp only [selF, pickA, nthA, List.cons_append, List.nil_append] at hC85
  refine wl_call cal_64 rfl (frfill_sp hC85 (k : Int) x.pg (hI.ent hid).2.2.2.2.1) rfl ?_
  rintro e w85 ⟨_, rfl, _, rfl, hS85⟩; refine ⟨_, rfl, ?_⟩
  replace hS85 := hS85.join rfl; dsimp only [List.dropLast, List.cons_append, List.nil_append] at hS85; clear hC85
  clear hSo84
  rw [hfs] at hS85
  refine wl_nil ?_
  refine qsD_of ?_
  refine qsD_seq ?_
  refine wcD_sub (L' := [(4, _), (6, _), (5, _), (3, _), (2, _)]) (.cons rfl (.cons rfl (.cons rfl (.cons rfl (.cons rfl .nil))))) ?_
  refine wcD_seq ?_
  have hS86 := hS85.drew
  refine wcD_draws mix ?_
  refine dr_vc (sp := [15, 17, 18, 20]) [0, 1, 2, 3, 4, 5, 6, 7, 8, 9, 10, 11, 12, 13, 14, 15, 16, 17, 18, 19, 20] (by kernel_rfl) ?_
  refine vc_q rfl rfl rfl (ev_load rfl ag_24 (by first | assumption | exact hS86.cell 1 rfl rfl | exact hS86.cell 8 rfl rfl | exact hS86.cell 9 rfl rfl | exact hS86.cell 10 rfl rfl | exact hS86.cell 11 rfl rfl | exact hS86.cell 12 rfl rfl)) ?_
  refine vc_p rfl rfl rfl (fun _ => (ev_nilCheck rfl)) ?_
  refine vc_p rfl rfl rfl (fun _ => (ev_fieldAddr rfl fo_65_0)) ?_
  refine vc_q rfl rfl rfl (ev_load rfl ag_56 (by first | assumption | exact hS86.cell 1 rfl rfl | exact hS86.cell 8 rfl rfl | exact hS86.cell 9 rfl rfl | exact hS86.cell 10 rfl rfl | exact hS86.cell 11 rfl rfl | exact hS86.cell 12 rfl rfl)) ?_
  refine vc_q rfl rfl rfl (ev_load rfl ag_3 (by first | assumption | exact hS86.cell 1 rfl rfl | exact hS86.cell 8 rfl rfl | exact hS86.cell 9 rfl rfl | exact hS86.cell 10 rfl rfl | exact hS86.cell 11 rfl rfl | exact hS86.cell 12 rfl rfl)) ?_
  refine vc_q rfl rfl rfl (ev_load rfl ag_24 (by first | assumption | exact hS86.cell 1 rfl rfl | exact hS86.cell 8 rfl rfl | exact hS86.cell 9 rfl rfl | exact hS86.cell 10 rfl rfl | exact hS86.cell 11 rfl rfl | exact hS86.cell 12 rfl rfl)) ?_
  refine vc_p rfl rfl rfl (fun _ => (ev_nilCheck rfl)) ?_
  refine vc_p rfl rfl rfl (fun _ => (ev_fieldAddr rfl fo_65_1)) ?_
  refine vc_q rfl rfl rfl (ev_load rfl ag_57 (by first | assumption | exact hS86.cell 1 rfl rfl | exact hS86.cell 8 rfl rfl | exact hS86.cell 9 rfl rfl | exact hS86.cell 10 rfl rfl | exact hS86.cell 11 rfl rfl | exact hS86.cell 12 rfl rfl)) ?_
  refine vc_p rfl rfl rfl (fun _ => (ev_move rfl)) ?_
  refine vc_p rfl rfl rfl (fun _ => (ev_fieldAddr rfl fo_76_0)) ?_
  refine vc_q rfl rfl rfl (ev_load rfl ag_3 (by first | assumption | exact hS86.cell 1 rfl rfl | exact hS86.cell 8 rfl rfl | exact hS86.cell 9 rfl rfl | exact hS86.cell 10 rfl rfl | exact hS86.cell 11 rfl rfl | exact hS86.cell 12 rfl rfl)) ?_
  refine vc_p rfl rfl rfl (fun _ => (ev_move rfl)) ?_
  refine vc_p rfl rfl rfl (fun _ => (ev_buildS rfl pl_76_0_1_2 asz_76 zr_76 rfl)) ?_
  refine vc_q rfl rfl rfl (ev_load rfl ag_3 (by first | assumption | exact hS86.cell 1 rfl rfl | exact hS86.cell 8 rfl rfl | exact hS86.cell 9 rfl rfl | exact hS86.cell 10 rfl rfl | exact hS86.cell 11 rfl rfl | exact hS86.cell 12 rfl rfl)) ?_
  refine vc_s rfl rfl rfl rfl rfl rfl ?_
  refine wl_mapEntry2 (k := id) 2 hS86 keysInt Tryz.underlying56 rfl rfl rfl zr_76 rfl ?_
  intro u87 c87 w87 hS87; dsimp only [List.set] at hS87
  clear hS86
  refine vc_e (.cons (.inl ⟨rfl, (ev_load rfl ag_3 (by first | assumption | exact hS87.cell 1 rfl rfl | exact hS87.cell 8 rfl rfl | exact hS87.cell 9 rfl rfl | exact hS87.cell 10 rfl rfl | exact hS87.cell 11 rfl rfl | exact hS87.cell 12 rfl rfl))⟩) (.cons (.inl ⟨rfl, (ev_load rfl ag_3 (by first | assumption | exact hS87.cell 1 rfl rfl | exact hS87.cell 8 rfl rfl | exact hS87.cell 9 rfl rfl | exact hS87.cell 10 rfl rfl | exact hS87.cell 11 rfl rfl | exact hS87.cell 12 rfl rfl))⟩) (.skip (by kernel_rfl) (.skip (by kernel_rfl) (.skip (by kernel_rfl) (.skip (by kernel_rfl) (.skip (by kernel_rfl) .nil))))))) ?_
  refine vc_p rfl rfl rfl (fun _ => (ev_extract rfl rfl)) ?_
  refine vc_s rfl rfl rfl rfl rfl rfl ?_
  have hsv88 : Value.agg #[intV x.refs, intV 1, intV (k : Nat), strV []] = shV ⟨x.refs, 1, (k : Nat), x.pg⟩ := rfl
  refine wl_entryStore2 (v := Value.agg #[intV x.refs, intV 1, intV (k : Nat), strV []]) 2 hS87 keysInt rfl rfl rfl rfl ?_
  intro w88 hS88a; dsimp only [List.set] at hS88a; have hS88 := hS88a; rw [hsv88, aG_up] at hS88
  clear hS87
  refine vc_e0 (.cons (.inl ⟨rfl, (ev_load rfl ag_3 (by first | assumption | exact hS88.cell 1 rfl rfl | exact hS88.cell 8 rfl rfl | exact hS88.cell 9 rfl rfl | exact hS88.cell 10 rfl rfl | exact hS88.cell 11 rfl rfl | exact hS88.cell 12 rfl rfl))⟩) (.skip (by kernel_rfl) (.skip (by kernel_rfl) (.skip (by kernel_rfl) (.skip (by kernel_rfl) (.skip (by kernel_rfl) (.skip (by kernel_rfl) .nil))))))) ?_
  refine vc_s rfl rfl rfl rfl rfl rfl ?_
  refine wl_mapEntry2 (k := (k : Int)) 3 hS88 keysInt Tryz.underlying57 rfl rfl rfl zr_3 rfl ?_
  intro u89 c89 w89 hS89; dsimp only [List.set] at hS89
  clear hS88
  refine vc_e (.cons (.inl ⟨rfl, (ev_load rfl ag_3 (by first | assumption | exact hS89.cell 1 rfl rfl | exact hS89.cell 8 rfl rfl | exact hS89.cell 9 rfl rfl | exact hS89.cell 10 rfl rfl | exact hS89.cell 11 rfl rfl | exact hS89.cell 12 rfl rfl))⟩) (.skip (by kernel_rfl) (.skip (by kernel_rfl) (.skip (by kernel_rfl) (.skip (by kernel_rfl) (.skip (by kernel_rfl) (.skip (by kernel_rfl) .nil))))))) ?_
  refine vc_p rfl rfl rfl (fun _ => (ev_extract rfl rfl)) ?_
  refine vc_s rfl rfl rfl rfl rfl rfl ?_
  refine wl_entryStore2 (v := intV id) 3 hS89 keysInt rfl rfl rfl rfl ?_
  intro w90 hS90a; dsimp only [List.set] at hS90a; have hS90 := hS90a; rw [gI_up] at hS90
  clear hS89
  refine vc_e0 (.skip (by kernel_rfl) (.skip (by kernel_rfl) (.skip (by kernel_rfl) (.skip (by kernel_rfl) (.skip (by kernel_rfl) (.skip (by kernel_rfl) (.skip (by kernel_rfl) .nil))))))) ?_
  refine VC.nil ?_
  refine qsD_of ?_
  refine qsD_seq ?_
  refine wcD_sub (L' := [(4, _), (5, _)]) (.cons rfl (.cons rfl .nil)) ?_
  refine wcD_seq ?_
  refine wcD_region ?_
  refine wl_move rfl rfl (wl_assign rfl rfl ?_)
  first | (refine wl_store hS90 rfl rfl sz_34 (by first | rfl | assumption | exact hS90.own_one 4 rfl | exact hS90.own_one 7 rfl) (i := 1) rfl (by first | decide | exact Nat.le_of_ble_eq_true rfl | (simp; done) | omega) ?_) | (refine wl_store hS90 rfl rfl sz_34 (by first | rfl | assumption | exact hS90.own_one 4 rfl | exact hS90.own_one 7 rfl) (i := 8) rfl (by first | decide | exact Nat.le_of_ble_eq_true rfl | (simp; done) | omega) ?_) | (refine wl_store hS90 rfl rfl sz_34 (by first | rfl | assumption | exact hS90.own_one 4 rfl | exact hS90.own_one 7 rfl) (i := 9) rfl (by first | decide | exact Nat.le_of_ble_eq_true rfl | (simp; done) | omega) ?_) | (refine wl_store hS90 rfl rfl sz_34 (by first | rfl | assumption | exact hS90.own_one 4 rfl | exact hS90.own_one 7 rfl) (i := 10) rfl (by first | decide | exact Nat.le_of_ble_eq_true rfl | (simp; done) | omega) ?_) | (refine wl_store hS90 rfl rfl sz_34 (by first | rfl | assumption | exact hS90.own_one 4 rfl | exact hS90.own_one 7 rfl) (i := 11) rfl (by first | decide | exact Nat.le_of_ble_eq_true rfl | (simp; done) | omega) ?_) | (refine wl_store hS90 rfl rfl sz_34 (by first | rfl | assumption | exact hS90.own_one 4 rfl | exact hS90.own_one 7 rfl) (i := 12) rfl (by first | decide | exact Nat.le_of_ble_eq_true rfl | (simp; done) | omega) ?_)
  intro w91 hS92; dsimp only [List.set] at hS92
  clear hS90
  refine wl_nil ?_
  refine qsD_of ?_
  refine qsD_seq ?_
  refine wcD_ret ?_
  have hC9 := hS92.split [8, 9, 10, 1] [false, true, false, false, false, false, false, false, true, true, true, false, false, false] rfl; dsimp only [selF, pickA, nthA, List.cons_append, List.nil_append] at hC9
  refine finD (.inr rfl) cal_62 (shback_sp rfl hC9) ?_
  rintro v0 w9 hq9
  rw [if_pos rfl] at hq9
  replace hq9 := hq9.join rfl; dsimp only [List.dropLast, List.cons_append, List.nil_append] at hq9
  refine ⟨_, res_two rfl (resT rfl) (resC rfl ag_34 (hq9.cell 0 rfl rfl)), ?_⟩
  exact ⟨_, rfl, .inr (.inl ⟨k, _, hp1, rfl, bring_of hI hid hp1 (SL := { S with sl := S.sl.set x.at_.toNat [] }) ⟨rfl, rfl, rfl, rfl, rfl, rfl⟩ hg, shT_shut (S := onF S1 id k x.refs x.pg S1.next) (hq9.pick [3, 5, 6, 7, 4, 8, 9, 10, 13] rfl)⟩)⟩
end Go.Proofs.YtnicmcdeoimhlaaGreat
