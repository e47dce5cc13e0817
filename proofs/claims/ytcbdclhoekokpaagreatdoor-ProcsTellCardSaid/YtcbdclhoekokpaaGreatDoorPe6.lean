/- reference 28: Get, Put, Remove, Records, All, Children, Group -/
import Derived.Test.YtcbdclhoekokpaaGreatDoorPe4
import Derived.Test.YtcbdclhoekokpaaGreatDoorPe5
import Derived.Test.YtcbdclhoekokpaaGreatDoorPd0
import Derived.ChangeKeysEq
import Derived.Laws.StructEq
namespace Go.Proofs.YtcbdclhoekokpaaGreatDoor
open Go.RowKit M
set_option linter.unusedVariables false
set_option maxRecDepth 100000 in
set_option maxHeartbeats 1000000 in
theorem qGetP_sp {w : World} {p n : Nat} {W : WS} {F : Th} (hS : Sat w [refP p W n, F]) (hn : n ≤ 900) (hB : TB W) (pid : Int) :
    Calls Tryz.prog 36 #[ptrV p 0, intV pid] w (Ret fun v w' => ∃ av fv, v = .tuple #[.agg (procV ((getW W pid).getD zeroP) av fv).toArray, .bool (getW W pid).isSome] ∧ Sat w' [rowT arC av ((getW W pid).getD zeroP).ar, rowT stC fv ((getW W pid).getD zeroP).fds, refP p W n, F]) := by
  refine calls_enter Tryz.func36 rfl Tryz.ntmps36 rfl ?_
  refine wc_seq ?_
  refine wc_region ?_
  refine wl_alloc hS zr_38 rfl rfl ?_
  intro br w1 hS1
  refine wl_assign rfl rfl ?_
  refine wl_nil ?_
  refine qs_seq ?_
  refine wc_seq ?_
  refine wc_seq ?_
  refine wc_region ?_
  refine wl_move rfl rfl ?_
  have hC2 := hS1.split [] [false, false, false] rfl; dsimp only [selF, pickA, nthA, List.cons_append, List.nil_append] at hC2
  refine wl_call cal_38 rfl (qkey_sp hC2 pid) rfl ?_
  rintro e w2 ⟨_, rfl, rfl, hS2⟩; refine ⟨_, rfl, ?_⟩
  replace hS2 := hS2.join rfl; dsimp only [List.dropLast, List.cons_append, List.nil_append] at hS2; clear hC2
  clear hS1
  refine wl_eqlS rfl rfl rfl ?_
  refine wl_nil ?_
  refine qs_seq ?_
  refine wc_condD rfl (fun h3 => ?_) (fun h3 => ?_)
  · skip
    refine wc_seq ?_
    refine wc_region ?_
    refine wl_buildS rfl pl_38_ asz_38 zr_38 rfl rfl ?_
    first | (refine wl_storeA hS2 rfl rfl sz_38 rfl (by first | rfl | (simp [allOne, Value.oneCell']; done) | assumption | exact hone) (i := 0) rfl (by first | decide | exact Nat.le_of_ble_eq_true rfl | (simp; done) | omega) ?_)
    intro w4 hS5; dsimp only [List.set] at hS5
    clear hS2
    refine wl_assign rfl rfl ?_
    refine wl_nil ?_
    refine qs_seq ?_
    refine wc_ret ?_
    refine qs_then_ret ?_
    refine finR2 (.inr rfl) rfl (resCA rfl ag_38 sz_38 (by first | exact hS5.blk 0 rfl) (by first | decide | exact Nat.le_of_ble_eq_true rfl | (simp; done) | omega) rfl) (resT rfl) ?_
    have hg : getW W pid = none := by unfold getW; rw [if_pos (by assumption)]
    exact ⟨_, rfl, (.slice none 0 0), (.slice none 0 0), by rw [hg]; simp only [Option.getD_none, Option.isSome_none, procV_eq]; rfl, by rw [hg]; exact ((hS5.pick [1, 2] rfl).row_nil stC).row_nil arC⟩
  refine wc_skip ?_
  refine qs_seq ?_
  refine wc_seq ?_
  refine wc_region ?_
  refine wl_move rfl rfl ?_
  refine wl_move rfl rfl ?_
  have hC6 := hS2.split [] [false, false, false] rfl; dsimp only [selF, pickA, nthA, List.cons_append, List.nil_append] at hC6
  refine wl_call cal_38 rfl (qkey_sp hC6 pid) rfl ?_
  rintro e w6 ⟨_, rfl, rfl, hS6⟩; refine ⟨_, rfl, ?_⟩
  replace hS6 := hS6.join rfl; dsimp only [List.dropLast, List.cons_append, List.nil_append] at hS6; clear hC6
  clear hS2
  have hC7 := hS6.split [1] [false, true, false] rfl; dsimp only [selF, pickA, nthA, List.cons_append, List.nil_append] at hC7
  refine wl_call cal_34 rfl (qGet hC7 (by omega) (keyP pid)) rfl ?_
  rintro e w7 ⟨_, rfl, rfl, hS7⟩; refine ⟨_, rfl, ?_⟩
  replace hS7 := hS7.join rfl; dsimp only [List.dropLast, List.cons_append, List.nil_append] at hS7; clear hC7
  clear hS6
  have hC8 := hS7.split [] [false, false, false] rfl; dsimp only [selF, pickA, nthA, List.cons_append, List.nil_append] at hC8
  refine wl_call cal_37 rfl (qRead_sp hC8 (W.cells (keyP pid)) (hB _)) rfl ?_
  rintro e w8 ⟨_, rfl, av, fv, rfl, hS8⟩; refine ⟨_, rfl, ?_⟩
  replace hS8 := hS8.join rfl; dsimp only [List.dropLast, List.cons_append, List.nil_append] at hS8; clear hC8
  clear hS7
  refine wl_move rfl rfl ?_
  refine wl_extract rfl rfl rfl ?_
  refine wl_extract rfl rfl rfl ?_
  have hone := procV_one (x := (decP (W.cells (keyP pid))).getD zeroP) (hS8.own_one 0 rfl) (hS8.own_one 1 rfl)
  refine wl_alloc hS8 zr_38 rfl rfl ?_
  intro bq w9 hS9
  clear hS8
  refine wl_storeA hS9 rfl rfl sz_38 rfl (by first | rfl | (simp [allOne, Value.oneCell']; done) | assumption) (i := 0) rfl (by first | decide | exact Nat.le_of_ble_eq_true rfl | (simp; done) | omega) ?_
  intro w10 hS10; dsimp only [List.set] at hS10
  clear hS9
  rw [splice_all _ _ (by rfl)] at hS10
  refine wl_assign rfl rfl ?_
  refine wl_nil ?_
  refine qs_seq ?_
  refine wc_sub (L' := [(7, _), (6, _), (5, _), (4, _), (1, _)]) (.cons rfl (.cons rfl (.cons rfl (.cons rfl (.cons rfl .nil))))) ?_
  refine wc_seq ?_
  refine wc_seq ?_
  refine wc_region ?_
  refine wl_move rfl rfl ?_
  refine wl_not rfl rfl ?_
  refine wl_move rfl rfl ?_
  refine wl_split 22 rfl (fun h11 => ?_) (fun h11 => ?_)
  · skip
    have hd := optNo (q := (decP (W.cells (keyP pid)))) (by simpa using h11)
    refine wl_unwanted rfl rfl h11 rfl ?_
    refine wl_unwanted rfl rfl h11 rfl ?_
    refine wl_unwanted rfl rfl h11 rfl ?_
    refine wl_unwanted rfl rfl h11 rfl ?_
    refine wl_pickT rfl h11 rfl rfl ?_
    refine wl_nil ?_
    refine qs_seq ?_
    refine wc_sub (L' := [(27, _), (6, _), (5, _), (4, _)]) (.cons rfl (.cons rfl (.cons rfl (.cons rfl .nil)))) ?_
    refine wc_condT rfl ?_
    refine wc_seq ?_
    refine wc_region ?_
    refine wl_buildS rfl pl_38_ asz_38 zr_38 rfl rfl ?_
    first | (refine wl_storeA hS10 rfl rfl sz_38 rfl (by first | rfl | (simp [allOne, Value.oneCell']; done) | assumption | exact hone) (i := 0) rfl (by first | decide | exact Nat.le_of_ble_eq_true rfl | (simp; done) | omega) ?_) | (refine wl_storeA hS10 rfl rfl sz_38 rfl (by first | rfl | (simp [allOne, Value.oneCell']; done) | assumption | exact hone) (i := 4) rfl (by first | decide | exact Nat.le_of_ble_eq_true rfl | (simp; done) | omega) ?_)
    intro w12 hS13; dsimp only [List.set] at hS13
    clear hS10
    refine wl_assign rfl rfl ?_
    refine wl_nil ?_
    refine qs_seq ?_
    refine wc_ret ?_
    refine qs_then_ret ?_
    refine finR2 (.inr rfl) rfl (resCA rfl ag_38 sz_38 (by first | exact hS13.blk 0 rfl | exact hS13.blk 4 rfl) (by first | decide | exact Nat.le_of_ble_eq_true rfl | (simp; done) | omega) rfl) (resT rfl) ?_
    have hg : getW W pid = none := by unfold getW; rw [if_neg (by assumption), hd]
    exact ⟨_, rfl, (.slice none 0 0), (.slice none 0 0), by rw [hg]; simp only [Option.getD_none, Option.isSome_none, procV_eq]; rfl, by rw [hg]; exact ((hS13.pick [3, 5] rfl).row_nil stC).row_nil arC⟩
  obtain ⟨x, hd⟩ := optYes (q := (decP (W.cells (keyP pid)))) (by simpa using h11)
  rw [hd] at hS10 hone h11 ⊢
  dsimp only [Option.getD_some] at hS10 hone ⊢
  refine wl_guard rfl rfl h11 ?_
  refine wl_fieldAddr rfl fo_38_0 rfl ?_
  refine wl_guard rfl rfl h11 ?_
  refine wl_load rfl ag_3 (by first | assumption | exact hS10.cell 0 rfl rfl | exact hS10.cell 4 rfl rfl) rfl ?_
  refine wl_guard rfl rfl h11 ?_
  refine wl_move rfl rfl ?_
  refine wl_guard rfl rfl h11 ?_
  refine wl_neq rfl rfl rfl ?_
  refine wl_pickF rfl h11 rfl rfl ?_
  refine wl_nil ?_
  refine qs_seq ?_
  refine wc_sub (L' := [(27, _), (6, _), (5, _), (4, _)]) (.cons rfl (.cons rfl (.cons rfl (.cons rfl .nil)))) ?_
  refine wc_condD rfl (fun h14 => ?_) (fun h14 => ?_)
  · skip
    refine wc_seq ?_
    refine wc_region ?_
    refine wl_buildS rfl pl_38_ asz_38 zr_38 rfl rfl ?_
    first | (refine wl_storeA hS10 rfl rfl sz_38 rfl (by first | rfl | (simp [allOne, Value.oneCell']; done) | assumption | exact hone) (i := 0) rfl (by first | decide | exact Nat.le_of_ble_eq_true rfl | (simp; done) | omega) ?_) | (refine wl_storeA hS10 rfl rfl sz_38 rfl (by first | rfl | (simp [allOne, Value.oneCell']; done) | assumption | exact hone) (i := 4) rfl (by first | decide | exact Nat.le_of_ble_eq_true rfl | (simp; done) | omega) ?_)
    intro w15 hS16; dsimp only [List.set] at hS16
    clear hS10
    refine wl_assign rfl rfl ?_
    refine wl_nil ?_
    refine qs_seq ?_
    refine wc_ret ?_
    refine qs_then_ret ?_
    refine finR2 (.inr rfl) rfl (resCA rfl ag_38 sz_38 (by first | exact hS16.blk 0 rfl | exact hS16.blk 4 rfl) (by first | decide | exact Nat.le_of_ble_eq_true rfl | (simp; done) | omega) rfl) (resT rfl) ?_
    have hg : getW W pid = none := by unfold getW; rw [if_neg (by assumption), hd]; dsimp only; rw [if_neg (by assumption)]
    exact ⟨_, rfl, (.slice none 0 0), (.slice none 0 0), by rw [hg]; simp only [Option.getD_none, Option.isSome_none, procV_eq]; rfl, by rw [hg]; exact ((hS16.pick [3, 5] rfl).row_nil stC).row_nil arC⟩
  refine wc_skip ?_
  refine qs_seq ?_
  refine wc_seq ?_
  refine wc_region ?_
  refine wl_loadA rfl ag_38 sz_38 (by first | exact hS10.blk 0 rfl | exact hS10.blk 4 rfl) (by first | decide | exact Nat.le_of_ble_eq_true rfl | (simp; done) | omega) rfl rfl ?_
  refine wl_storeA hS10 rfl rfl sz_38 rfl (by first | rfl | (simp [allOne, Value.oneCell']; done) | assumption) (i := 4) rfl (by first | decide | exact Nat.le_of_ble_eq_true rfl | (simp; done) | omega) ?_
  intro w17 hS17; dsimp only [List.set] at hS17
  clear hS10
  rw [splice_all _ _ (by rfl)] at hS17
  refine wl_assign rfl rfl ?_
  refine wl_nil ?_
  refine qs_seq ?_
  refine wc_ret ?_
  refine finR2 (.inr rfl) rfl (resCA rfl ag_38 sz_38 (by first | exact hS17.blk 0 rfl | exact hS17.blk 4 rfl) (by first | decide | exact Nat.le_of_ble_eq_true rfl | (simp; done) | omega) rfl) (resT rfl) ?_
  have hg : getW W pid = some x := by unfold getW; rw [if_neg (by assumption), hd]; dsimp only; rw [if_pos (Decidable.not_not.1 (by assumption))]
  exact ⟨_, rfl, _, _, by rw [hg]; rfl, by rw [hg]; exact hS17.pick [1, 2, 3, 5] rfl⟩
set_option maxRecDepth 100000 in
theorem qPutP_sp {w : World} {p n : Nat} {W : WS} {F : Th} (hS : Sat w [refP p W n, F]) (hn : n ≤ 900) {x : ProcD} (hw : WFR x) {av fv : Value} (hA : Ent F (RdL arC av x.ar)) (hF : Ent F (RdL stC fv x.fds)) (hz : (encR x).length ≤ 1000000) :
    Calls Tryz.prog 76 #[ptrV p 0, .agg (procV x av fv).toArray] w (Ret fun v w' => v = .tuple #[] ∧ Sat w' [refP p (putW W x) (n + 1), F]) := by
  refine calls_enter Tryz.func76 rfl Tryz.ntmps76 rfl ?_
  refine wc_seq ?_
  refine wc_region ?_
  refine wl_box hS rfl rfl rfl ?_
  intro bp wp hSp0
  have hSp : Sat wp [blkT bp (procV x av fv), refP p W n, F] := hSp0
  refine wl_nil ?_
  refine qs_seq ?_
  refine wc_seq ?_
  refine wc_region ?_
  refine wl_fieldAddr rfl fo_38_0 rfl ?_
  refine wl_load rfl ag_3 (by first | assumption | exact hSp.cell 0 rfl rfl) rfl ?_
  have hC1 := hSp.split [] [false, false, false] rfl; dsimp only [selF, pickA, nthA, List.cons_append, List.nil_append] at hC1
  refine wl_call cal_38 rfl (qkey_sp hC1 (hq x 0)) rfl ?_
  rintro e w1 ⟨_, rfl, rfl, hS1⟩; refine ⟨_, rfl, ?_⟩
  replace hS1 := hS1.join rfl; dsimp only [List.dropLast, List.cons_append, List.nil_append] at hS1; clear hC1
  clear hSp
  refine wl_neqS rfl rfl rfl ?_
  refine wl_nil ?_
  refine qs_seq ?_
  refine wc_condD rfl (fun h2 => ?_) (fun h2 => ?_)
  · skip
    have hS3 := hS1.drew
    refine wc_draw [0, 1, 2, 4, 3, 5, 6] [3, 5, 6] mix (by kernel_rfl) ?_
    refine vc_p rfl rfl rfl (fun _ => (ev_move rfl)) ?_
    refine vc_p rfl rfl rfl (fun _ => (ev_fieldAddr rfl fo_38_0)) ?_
    refine vc_q rfl rfl rfl (ev_load rfl ag_3 (by first | assumption | exact hS3.cell 0 rfl rfl)) ?_
    refine vc_q rfl rfl rfl (ev_loadA rfl ag_38 sz_38 (by first | exact hS3.blk 0 rfl) (by first | decide | exact Nat.le_of_ble_eq_true rfl | (simp; done) | omega) rfl) ?_
    refine vc_s rfl rfl rfl rfl rfl rfl ?_
    have hC4 := hS3.split [] [false, false, false] rfl; dsimp only [selF, pickA, nthA, List.cons_append, List.nil_append] at hC4
    refine wl_call cal_38 rfl (qkey_sp hC4 (hq x 0)) rfl ?_
    rintro e w4 ⟨_, rfl, rfl, hS4⟩; refine ⟨_, rfl, ?_⟩
    replace hS4 := hS4.join rfl; dsimp only [List.dropLast, List.cons_append, List.nil_append] at hS4; clear hC4
    clear hS3
    refine vc_e (.cons (.inl ⟨rfl, (ev_loadA rfl ag_38 sz_38 (by first | exact hS4.blk 0 rfl) (by first | decide | exact Nat.le_of_ble_eq_true rfl | (simp; done) | omega) rfl)⟩) (.skip (by kernel_rfl) .nil)) ?_
    refine vc_s rfl rfl rfl rfl rfl rfl ?_
    have hC5 := hS4.split [] [false, false, false] rfl; dsimp only [selF, pickA, nthA, List.cons_append, List.nil_append] at hC5
    refine wl_call cal_28 rfl (qBytes_sp hC5 hw (hA.starL 2 rfl) (hF.starL 2 rfl) (by omega)) rfl ?_
    rintro e w5 ⟨_, rfl, rfl, hS5⟩; refine ⟨_, rfl, ?_⟩
    replace hS5 := hS5.join rfl; dsimp only [List.dropLast, List.cons_append, List.nil_append] at hS5; clear hC5
    clear hS4
    refine vc_e (.skip (by kernel_rfl) (.skip (by kernel_rfl) .nil)) ?_
    refine vc_s rfl rfl rfl rfl rfl rfl ?_
    have hC6 := hS5.split [1] [false, true, false] rfl; dsimp only [selF, pickA, nthA, List.cons_append, List.nil_append] at hC6
    refine wl_call cal_26 rfl (qPut hC6 (by omega) (keyP (hq x 0)) (encR x)) rfl ?_
    rintro e w6 ⟨_, rfl, rfl, hS6⟩; refine ⟨_, rfl, ?_⟩
    replace hS6 := hS6.join rfl; dsimp only [List.dropLast, List.cons_append, List.nil_append] at hS6; clear hC6
    clear hS5
    refine vc_e (.skip (by kernel_rfl) (.skip (by kernel_rfl) .nil)) ?_
    refine VC.nil ?_
    refine fin0 (.inl rfl) rfl ?_
    exact ⟨_, rfl, rfl, by unfold putW; rw [if_neg (by assumption)]; exact hS6.pick [0, 2] rfl⟩
  refine wc_skip ?_
  refine fin0 (.inl rfl) rfl ?_
  exact ⟨_, rfl, rfl, by unfold putW; rw [if_pos (Decidable.not_not.1 (by assumption))]; exact refP_up (by omega) (hS1.pick [1, 2] rfl)⟩
theorem qRmP_sp {w : World} {p n : Nat} {W : WS} {F : Th} (hS : Sat w [refP p W n, F]) (hn : n ≤ 900) (pid : Int) :
    Calls Tryz.prog 74 #[ptrV p 0, intV pid] w (Ret fun v w' => v = .tuple #[] ∧ Sat w' [refP p (rmW W pid) (n + 1), F]) := by
  refine calls_enter Tryz.func74 rfl Tryz.ntmps74 rfl ?_
  refine wc_seq ?_
  refine wc_region ?_
  refine wl_move rfl rfl ?_
  have hC1 := hS.split [] [false, false] rfl; dsimp only [selF, pickA, nthA, List.cons_append, List.nil_append] at hC1
  refine wl_call cal_38 rfl (qkey_sp hC1 pid) rfl ?_
  rintro e w1 ⟨_, rfl, rfl, hS1⟩; refine ⟨_, rfl, ?_⟩
  replace hS1 := hS1.join rfl; dsimp only [List.dropLast, List.cons_append, List.nil_append] at hS1; clear hC1
  refine wl_neqS rfl rfl rfl ?_
  refine wl_nil ?_
  refine qs_seq ?_
  refine wc_condD rfl (fun h2 => ?_) (fun h2 => ?_)
  · skip
    refine wc_region ?_
    refine wl_move rfl rfl ?_
    refine wl_move rfl rfl ?_
    have hC3 := hS1.split [] [false, false] rfl; dsimp only [selF, pickA, nthA, List.cons_append, List.nil_append] at hC3
    refine wl_call cal_38 rfl (qkey_sp hC3 pid) rfl ?_
    rintro e w3 ⟨_, rfl, rfl, hS3⟩; refine ⟨_, rfl, ?_⟩
    replace hS3 := hS3.join rfl; dsimp only [List.dropLast, List.cons_append, List.nil_append] at hS3; clear hC3
    clear hS1
    have hC4 := hS3.split [0] [true, false] rfl; dsimp only [selF, pickA, nthA, List.cons_append, List.nil_append] at hC4
    refine wl_call cal_26 rfl (qPut hC4 (by omega) (keyP pid) []) rfl ?_
    rintro e w4 ⟨_, rfl, rfl, hS4⟩; refine ⟨_, rfl, ?_⟩
    replace hS4 := hS4.join rfl; dsimp only [List.dropLast, List.cons_append, List.nil_append] at hS4; clear hC4
    clear hS3
    refine wl_nil ?_
    refine fin0 (.inl rfl) rfl ?_
    exact ⟨_, rfl, rfl, by unfold rmW; rw [if_neg (by assumption)]; exact hS4.pick [0, 1] rfl⟩
  refine wc_skip ?_
  refine fin0 (.inl rfl) rfl ?_
  exact ⟨_, rfl, rfl, by unfold rmW; rw [if_pos (Decidable.not_not.1 (by assumption))]; exact refP_up (by omega) (hS1.pick [0, 1] rfl)⟩
set_option maxRecDepth 100000 in
set_option maxHeartbeats 2000000 in
theorem qRecords_sp {w : World} {p n : Nat} {W : WS} {F : Th} (hS : Sat w [refP p W n, F]) (hn : n ≤ 900) (hB : TB W) :
    Calls Tryz.prog 96 #[ptrV p 0] w (Ret fun v w' => ∃ es kl, KeysOf W.cells [80, 47] kl ∧ es.map (·.x) = recsF W (fun _ => true) kl ∧ es.length ≤ n ∧ Sat w' [rowT prC v es, starL (es.map inT), refP p W n, F]) := by
  refine calls_enter Tryz.func96 rfl Tryz.ntmps96 rfl ?_
  refine wc_seq ?_
  refine wc_region ?_
  refine wl_assign rfl rfl ?_
  refine wl_nil ?_
  refine qs_seq ?_
  refine wc_seq ?_
  refine wc_region ?_
  refine wl_assign rfl rfl ?_
  refine wl_nil ?_
  refine qs_seq ?_
  refine wc_seq ?_
  refine wc_region ?_
  refine wl_move rfl rfl ?_
  have hC1 := hS.split [0] [true, false] rfl; dsimp only [selF, pickA, nthA, List.cons_append, List.nil_append] at hC1
  refine wl_call cal_29 rfl (qWith hC1 (by omega) [80, 47]) rfl ?_
  rintro e w1 ⟨_, rfl, kl, hkl, hkll, hS1⟩; refine ⟨_, rfl, ?_⟩
  replace hS1 := hS1.join rfl; dsimp only [List.dropLast, List.cons_append, List.nil_append] at hS1; clear hC1
  refine wl_assign rfl rfl ?_
  refine wl_nil ?_
  refine qs_seq ?_
  refine wc_seq ?_
  refine wc_seq ?_
  refine wc_region ?_
  refine wl_assign rfl rfl ?_
  refine wl_nil ?_
  refine qs_seq ?_
  refine wc_block ?_
  have hSn := (Sat.fold (As := []) hS1).row_nil prC
  refine wc_loop (fun K0 E0 W0 => ∃ (i : Nat) (ov : Value) (es : List PE) (klv : Value), K0 = kl.length - i ∧ E0 = [(0, ptrV p 0), (3, ov), (4, klv), (5, intV (i : Int))] ∧ Sat W0 [rowT prC ov es, starL (es.map inT), rowT stC klv kl, refP p W n, F] ∧ (i ≤ kl.length) ∧ (es.map (·.x) = recsF W (fun _ => true) (kl.take i))) (L0 := [(0, _), (3, _), (4, _), (5, _)]) (kl.length - 0) (.cons rfl (.cons rfl (.cons rfl (.cons rfl .nil)))) ⟨0, _, [], _, rfl, rfl, (hSn.pick [0, 1, 2, 3, 4] rfl), by omega, rfl⟩ ?_
  rintro _ _ w2 ⟨i, ov, es, klv, rfl, rfl, hS2, hi, hes⟩
  have h1ov : ov.oneCell' = true := hS2.own_one 0 rfl
  have hel := congrArg List.length hes
  rw [List.length_map] at hel
  have hfw := recs_few W (fun _ => true) (kl.take i)
  have htk : (kl.take i).length ≤ kl.length := by rw [List.length_take]; omega
  refine wc_seq ?_
  refine wc_seq ?_
  refine wc_region ?_
  refine wl_move rfl rfl ?_
  refine wl_move rfl rfl ?_
  first | refine wl_lenL Tryz.underlying31 rfl rfl ?_ | refine wl_lenO 0 hS2 Tryz.underlying31 rfl rfl rfl ?_ | refine wl_lenO 2 hS2 Tryz.underlying31 rfl rfl rfl ?_
  refine wl_lss rfl rfl rfl ?_
  refine wl_nil ?_
  refine qs_seq ?_
  refine wc_condD rfl (fun h3 => ?_) (fun h3 => ?_)
  · skip
    obtain ⟨key, hkey⟩ : ∃ k, kl[i]? = some k := ⟨_, List.getElem?_eq_getElem (by omega)⟩
    obtain ⟨kb, kc, rfl, _⟩ := hS2.own_at 2 rfl (by omega)
    refine wc_skip ?_
    refine qs_seq ?_
    refine wc_seq ?_
    refine wc_block ?_
    refine wc_seq ?_
    refine wc_region ?_
    refine wl_move rfl rfl ?_
    refine wl_move rfl rfl ?_
    refine wl_move rfl rfl ?_
    refine wl_rowIdx stC 2 i hS2 rfl rfl rfl (by first | rfl | omega) hkey es_31 rfl ?_
    intro bx4 capx4 hvx4
    refine wl_rowLoad 2 i 0 hS2 rfl hvx4 rfl rfl hkey ag_9 rfl rfl ?_
    have hC5 := hS2.split [3] [false, false, false, true, false] rfl; dsimp only [selF, pickA, nthA, List.cons_append, List.nil_append] at hC5
    refine wl_call cal_34 rfl (qGet hC5 (by omega) key) rfl ?_
    rintro e w5 ⟨_, rfl, rfl, hS5⟩; refine ⟨_, rfl, ?_⟩
    replace hS5 := hS5.join rfl; dsimp only [List.dropLast, List.cons_append, List.nil_append] at hS5; clear hC5
    clear hS2
    have hC6 := hS5.split [] [false, false, false, false, false] rfl; dsimp only [selF, pickA, nthA, List.cons_append, List.nil_append] at hC6
    refine wl_call cal_37 rfl (qRead_sp hC6 (W.cells key) (hB _)) rfl ?_
    rintro e w6 ⟨_, rfl, av, fv, rfl, hS6⟩; refine ⟨_, rfl, ?_⟩
    replace hS6 := hS6.join rfl; dsimp only [List.dropLast, List.cons_append, List.nil_append] at hS6; clear hC6
    clear hS5
    refine wl_move rfl rfl ?_
    refine wl_extract rfl rfl rfl ?_
    refine wl_extract rfl rfl rfl ?_
    have hone := procV_one (x := (decP (W.cells key)).getD zeroP) (hS6.own_one 0 rfl) (hS6.own_one 1 rfl)
    refine wl_alloc hS6 zr_38 rfl rfl ?_
    intro bq w7 hS7
    clear hS6
    refine wl_storeA hS7 rfl rfl sz_38 rfl (by first | rfl | (simp [allOne, Value.oneCell']; done) | assumption) (i := 0) rfl (by first | decide | exact Nat.le_of_ble_eq_true rfl | (simp; done) | omega) ?_
    intro w8 hS8; dsimp only [List.set] at hS8
    clear hS7
    rw [splice_all _ _ (by rfl)] at hS8
    refine wl_assign rfl rfl ?_
    refine wl_nil ?_
    refine qs_seq ?_
    refine wc_sub (L' := [(7, _), (6, _), (0, _), (3, _), (4, _), (5, _)]) (.cons rfl (.cons rfl (.cons rfl (.cons rfl (.cons rfl (.cons rfl .nil)))))) ?_
    refine wc_seq ?_
    have hS9 := hS8.drew
    refine wc_draw [0, 1, 2, 3, 5, 6, 7, 8, 4, 9, 10] [4] mix (by kernel_rfl) ?_
    refine vc_p rfl rfl rfl (fun _ => (ev_move rfl)) ?_
    refine vc_p rfl rfl rfl (fun _ => (ev_move rfl)) ?_
    refine vc_split 27 rfl (fun h10 => ?_) (fun h10 => ?_)
    · skip
      obtain ⟨x, hd⟩ := optYes (q := (decP (W.cells key))) (by simpa using h10)
      rw [hd] at hS9 hone h10 ⊢
      dsimp only [Option.getD_some] at hS9 hone ⊢
      obtain ⟨aa, ac, rfl, _⟩ := hS9.own_shape 1 rfl
      obtain ⟨fa, fc, rfl, _⟩ := hS9.own_shape 2 rfl
      refine vc_p rfl rfl (guard_yes rfl rfl h10) (fun _ => (Ev.gd (ev_fieldAddr rfl fo_38_0))) ?_
      refine vc_q rfl rfl (guard_yes rfl rfl h10) (Ev.gd (ev_load rfl ag_3 (by first | assumption | exact hS9.cell 0 rfl rfl))) ?_
      refine vc_p rfl rfl (guard_yes rfl rfl h10) (fun _ => (Ev.gd (ev_move rfl))) ?_
      refine vc_p rfl rfl (guard_yes rfl rfl h10) (fun _ => (Ev.gd (ev_move rfl))) ?_
      refine vc_p rfl rfl (guard_yes rfl rfl h10) (fun _ => (Ev.gd (ev_indexAddr i rfl rfl (by first | rfl | omega) (by first | omega | exact (List.getElem?_eq_some_iff.1 hkey).1) es_31))) ?_
      refine vc_q rfl rfl (guard_yes rfl rfl h10) (Ev.gd (ev_rowLoad0 stC 6 i 0 hS9 rfl hkey ag_9 rfl rfl)) ?_
      refine vc_s rfl rfl (guard_yes rfl rfl h10) rfl rfl rfl ?_
      have hC11 := hS9.split [] [false, false, false, false, false, false, false, false] rfl; dsimp only [selF, pickA, nthA, List.cons_append, List.nil_append] at hC11
      refine wl_call cal_38 rfl (qkey_sp hC11 (hq x 0)) rfl ?_
      rintro e w11 ⟨_, rfl, rfl, hS11⟩; refine ⟨_, rfl, ?_⟩
      replace hS11 := hS11.join rfl; dsimp only [List.dropLast, List.cons_append, List.nil_append] at hS11; clear hC11
      clear hS9
      refine vc_e (.cons (.inl ⟨(guard_yes rfl rfl h10), (Ev.gd (ev_rowLoad0 stC 6 i 0 hS11 rfl hkey ag_9 rfl rfl))⟩) (.skip (by kernel_rfl) .nil)) ?_
      refine vc_p rfl rfl (guard_yes rfl rfl h10) (fun _ => (Ev.gd (ev_eqlS rfl rfl))) ?_
      refine vc_p rfl rfl rfl (fun _ => (ev_pickT rfl h10 rfl)) ?_
      refine VC.nil ?_
      refine qs_seq ?_
      refine wc_sub (L' := [(36, _), (6, _), (0, _), (3, _), (4, _), (5, _)]) (.cons rfl (.cons rfl (.cons rfl (.cons rfl (.cons rfl (.cons rfl .nil)))))) ?_
      refine wc_condD rfl (fun h12 => ?_) (fun h12 => ?_)
      · skip
        have hrf : recF W key = some x := by unfold recF; rw [hd]; dsimp only; rw [if_pos h12]
        refine wc_region ?_
        refine wl_move rfl rfl ?_
        refine wl_loadA rfl ag_38 sz_38 (by first | exact hS11.blk 0 rfl) (by first | decide | exact Nat.le_of_ble_eq_true rfl | (simp; done) | omega) rfl rfl ?_
        refine wl_rowBuild prC [⟨x, aa, ac, fa, fc⟩] hS11 rfl Tryz.underlying53 ifz_38 rfl rfl rfl rfl (by first | rfl | simp [RowC.cells, fillL, splice]) rfl ?_
        intro b13 w13 hS13
        clear hS11
        refine wl_rowApp prC 5 hS13 rfl rfl rfl (hS13.rd 0 rfl (by simp)) Tryz.underlying53 Tryz.underlying53 (by intro k hk; cases hk) ifo_38 rfl (by simp only [List.length_cons, List.length_nil]; omega) rfl (by simp only [List.length_cons, List.length_nil]; omega) ?_
        intro v14 w14 hS14; dsimp only [List.set] at hS14
        clear hS13
        have h1v14 : v14.oneCell' = true := hS14.own_one 5 rfl
        refine wl_assign rfl rfl ?_
        refine wl_nil ?_
        refine qs_block_normal ?_
        refine qs_seq ?_
        refine wc_region ?_
        refine wl_move rfl rfl ?_
        refine wl_add rfl rfl (by first | omega | (simp; omega)) (by first | omega | (simp; omega)) rfl ?_
        refine wl_assign rfl rfl ?_
        refine wl_nil ?_
        have hn9 := recs_some (pr := (fun _ => true)) hkey hrf rfl
        have hin := in_app (e := ⟨x, aa, ac, fa, fc⟩) (es := es) (hS14.pick [2, 3, 6, 5, 7, 4, 8] rfl)
        exact qs_round (L1 := [(0, _), (3, _), (4, _), (5, intV ((i + 1 : Nat) : Int))]) (.cons rfl (.cons rfl (.cons rfl (.cons rfl .nil)))) (k1 := kl.length - (i + 1)) (by omega) ⟨i + 1, _, _, _, rfl, rfl, (hin.reorder [1, 0, 2, 3, 4] rfl), by omega, by rw [hn9, List.map_append, hes]; rfl⟩
      refine wc_skip ?_
      refine qs_block_normal ?_
      refine qs_seq ?_
      refine wc_region ?_
      refine wl_move rfl rfl ?_
      refine wl_add rfl rfl (by first | omega | (simp; omega)) (by first | omega | (simp; omega)) rfl ?_
      refine wl_assign rfl rfl ?_
      refine wl_nil ?_
      have hn9 := recs_none (W := W) (pr := (fun _ => true)) hkey (by unfold recF; rw [hd]; dsimp only; rw [if_neg (by assumption)])
      exact qs_round (L1 := [(0, _), (3, _), (4, _), (5, intV ((i + 1 : Nat) : Int))]) (.cons rfl (.cons rfl (.cons rfl (.cons rfl .nil)))) (k1 := kl.length - (i + 1)) (by omega) ⟨i + 1, _, _, _, rfl, rfl, hS11.pick [4, 5, 6, 3, 7] rfl, by omega, by rw [hn9, hes]⟩
    have hd := optNo (q := (decP (W.cells key))) (by simpa using h10)
    refine vc_not rfl rfl (guard_no rfl rfl h10) ?_
    refine vc_not rfl rfl (guard_no rfl rfl h10) ?_
    refine vc_not rfl rfl (guard_no rfl rfl h10) ?_
    refine vc_not rfl rfl (guard_no rfl rfl h10) ?_
    refine vc_not rfl rfl (guard_no rfl rfl h10) ?_
    refine vc_not rfl rfl (guard_no rfl rfl h10) ?_
    refine VC.spineNot rfl rfl (guard_no rfl rfl h10) ?_
    refine vc_not rfl rfl (guard_no rfl rfl h10) ?_
    refine vc_p rfl rfl rfl (fun _ => (ev_pickF rfl h10 rfl)) ?_
    refine VC.nil ?_
    refine qs_seq ?_
    refine wc_sub (L' := [(36, _), (6, _), (0, _), (3, _), (4, _), (5, _)]) (.cons rfl (.cons rfl (.cons rfl (.cons rfl (.cons rfl (.cons rfl .nil)))))) ?_
    refine wc_condF rfl ?_
    refine wc_skip ?_
    refine qs_block_normal ?_
    refine qs_seq ?_
    refine wc_region ?_
    refine wl_move rfl rfl ?_
    refine wl_add rfl rfl (by first | omega | (simp; omega)) (by first | omega | (simp; omega)) rfl ?_
    refine wl_assign rfl rfl ?_
    refine wl_nil ?_
    have hn9 := recs_none (W := W) (pr := (fun _ => true)) hkey (by unfold recF; rw [hd])
    exact qs_round (L1 := [(0, _), (3, _), (4, _), (5, intV ((i + 1 : Nat) : Int))]) (.cons rfl (.cons rfl (.cons rfl (.cons rfl .nil)))) (k1 := kl.length - (i + 1)) (by omega) ⟨i + 1, _, _, _, rfl, rfl, hS9.pick [4, 5, 6, 3, 7] rfl, by omega, by rw [hn9, hes]⟩
  refine wc_exit ?_
  refine qs_then_exit ?_
  refine qs_then_exit ?_
  refine qs_block_exit ?_
  refine qs_seq ?_
  refine wc_seq ?_
  have hel2 : es.length ≤ n := by omega
  refine wc_region ?_
  refine wl_move rfl rfl ?_
  refine wl_assign rfl rfl ?_
  refine wl_nil ?_
  refine qs_seq ?_
  refine wc_ret ?_
  refine fin1 (.inr rfl) rfl rfl ?_
  exact ⟨_, rfl, es, kl, hkl, by rw [hes, List.take_of_length_le (by omega)], hel2, hS2.pick [0, 1, 3, 4] rfl⟩
def pidsE (pr : ProcD → Bool) (es : List PE) : List Int := (es.filter fun e => pr e.x).map fun e => hq e.x 0
theorem pidsE_yes {pr : ProcD → Bool} {es : List PE} {i : Nat} {e : PE} (h : es[i]? = some e) (hp : pr e.x = true) : pidsE pr (es.take (i + 1)) = pidsE pr (es.take i) ++ [hq e.x 0] := by
  unfold pidsE; rw [List.take_add_one, h, List.filter_append]; simp [hp]
theorem pidsE_no {pr : ProcD → Bool} {es : List PE} {i : Nat} {e : PE} (h : es[i]? = some e) (hp : pr e.x = false) : pidsE pr (es.take (i + 1)) = pidsE pr (es.take i) := by
  unfold pidsE; rw [List.take_add_one, h, List.filter_append]; simp [hp]
theorem pidsE_len (pr : ProcD → Bool) (es : List PE) : (pidsE pr es).length ≤ es.length := by
  unfold pidsE; rw [List.length_map]; exact List.length_filter_le _ _
theorem pidsE_end {W : WS} {pr : ProcD → Bool} {es : List PE} {kl : List Bs} {i : Nat} (h : es.map (·.x) = recsF W (fun _ => true) kl) (hi : es.length ≤ i) : pidsE pr (es.take i) = pidsF W pr kl := by
  rw [List.take_of_length_le hi]
  have e : recsF W pr kl = (es.map (·.x)).filter pr := by rw [h]; unfold recsF; rw [List.filter_filter]; simp
  unfold pidsF pidsE
  rw [e, List.filter_map, List.map_map]; rfl
theorem pidsF_few (W : WS) (pr : ProcD → Bool) (kl : List Bs) : (pidsF W pr kl).length = (recsF W pr kl).length := by unfold pidsF; rw [List.length_map]
theorem recs_all (W : WS) (pr : ProcD → Bool) (kl : List Bs) : (recsF W pr kl).length ≤ (recsF W (fun _ => true) kl).length := by
  unfold recsF
  rw [show ((kl.filterMap (recF W)).filter fun _ => true) = kl.filterMap (recF W) by simp]
  exact List.length_filter_le _ _
set_option maxRecDepth 100000 in
set_option maxHeartbeats 1000000 in
theorem qAll_sp {w : World} {p n : Nat} {W : WS} {F : Th} (hS : Sat w [refP p W n, F]) (hn : n ≤ 900) (hB : TB W) :
    Calls Tryz.prog 40 #[ptrV p 0] w (Ret fun v w' => ∃ kl, KeysOf W.cells [80, 47] kl ∧ (pidsF W (fun _ => true) kl).length ≤ n ∧ Sat w' [rowT inC v (pidsF W (fun _ => true) kl), refP p W n, F]) := by
  refine calls_enter Tryz.func40 rfl Tryz.ntmps40 rfl ?_
  refine wc_seq ?_
  refine wc_region ?_
  refine wl_assign rfl rfl ?_
  refine wl_nil ?_
  refine qs_seq ?_
  refine wc_seq ?_
  refine wc_region ?_
  refine wl_assign rfl rfl ?_
  refine wl_nil ?_
  refine qs_seq ?_
  refine wc_seq ?_
  refine wc_region ?_
  refine wl_move rfl rfl ?_
  have hC1 := hS.split [0] [true, false] rfl; dsimp only [selF, pickA, nthA, List.cons_append, List.nil_append] at hC1
  refine wl_call cal_96 rfl (qRecords_sp hC1 hn hB) rfl ?_
  rintro e w1 ⟨_, rfl, es, kl, hkl, hes, hel, hS1⟩; refine ⟨_, rfl, ?_⟩
  replace hS1 := hS1.join rfl; dsimp only [List.dropLast, List.cons_append, List.nil_append] at hS1; clear hC1
  refine wl_assign rfl rfl ?_
  refine wl_nil ?_
  refine qs_seq ?_
  refine wc_seq ?_
  refine wc_seq ?_
  refine wc_region ?_
  refine wl_assign rfl rfl ?_
  refine wl_nil ?_
  refine qs_seq ?_
  refine wc_block ?_
  refine wc_loop (fun K0 E0 W0 => ∃ (i : Nat) (ov lv : Value), K0 = es.length - i ∧ E0 = [(3, ov), (4, lv), (5, intV (i : Int))] ∧ Sat W0 [rowT inC ov (pidsE (fun _ => true) (es.take i)), rowT prC lv es, starL (es.map inT), refP p W n, F] ∧ (i ≤ es.length)) (L0 := [(3, _), (4, _), (5, _)]) (es.length - 0) (.cons rfl (.cons rfl (.cons rfl .nil))) ⟨0, _, _, rfl, rfl, (hS1.row_nil inC).pick [0, 1, 2, 3, 4] rfl, by omega⟩ ?_
  rintro _ _ w2 ⟨i, ov, lv, rfl, rfl, hS2, hi⟩
  have h1ov : ov.oneCell' = true := hS2.own_one 0 rfl
  have hpl := pidsE_len (fun _ => true) (es.take i)
  have htk : (es.take i).length ≤ es.length := by rw [List.length_take]; omega
  refine wc_seq ?_
  refine wc_seq ?_
  refine wc_region ?_
  refine wl_move rfl rfl ?_
  refine wl_move rfl rfl ?_
  first | refine wl_lenL Tryz.underlying53 rfl rfl ?_ | refine wl_lenO 0 hS2 Tryz.underlying53 rfl rfl rfl ?_ | refine wl_lenO 1 hS2 Tryz.underlying53 rfl rfl rfl ?_
  refine wl_lss rfl rfl rfl ?_
  refine wl_nil ?_
  refine qs_seq ?_
  refine wc_condD rfl (fun h3 => ?_) (fun h3 => ?_)
  · skip
    obtain ⟨e, he⟩ : ∃ e, es[i]? = some e := ⟨_, List.getElem?_eq_getElem (by omega)⟩
    refine wc_skip ?_
    refine qs_seq ?_
    refine wc_seq ?_
    refine wc_block ?_
    refine wc_region ?_
    refine wl_move rfl rfl ?_
    refine wl_move rfl rfl ?_
    refine wl_move rfl rfl ?_
    refine wl_rowIdx prC 1 i hS2 rfl rfl rfl (by first | rfl | omega) he es_53 rfl ?_
    intro bx4 capx4 hvx4
    refine wl_fieldAddr rfl fo_38_0 rfl ?_
    refine wl_rowLoad 1 i 0 hS2 rfl hvx4 rfl rfl he ag_3 rfl rfl ?_
    refine wl_rowBuild inC [hq e.x 0] hS2 rfl Tryz.underlying46 ifz_3 rfl rfl rfl rfl (by first | rfl | simp [RowC.cells, fillL, splice]) rfl ?_
    intro b5 w5 hS5
    clear hS2
    refine wl_rowApp inC 1 hS5 rfl rfl rfl (hS5.rd 0 rfl (by simp)) Tryz.underlying46 Tryz.underlying46 (by intro k hk; cases hk) ifo_3 rfl (by simp only [List.length_cons, List.length_nil]; omega) rfl (by simp only [List.length_cons, List.length_nil]; omega) ?_
    intro v6 w6 hS6; dsimp only [List.set] at hS6
    clear hS5
    have h1v6 : v6.oneCell' = true := hS6.own_one 1 rfl
    refine wl_assign rfl rfl ?_
    refine wl_nil ?_
    refine qs_block_normal ?_
    refine qs_seq ?_
    refine wc_sub (L' := [(3, _), (4, _), (5, _)]) (.cons rfl (.cons rfl (.cons rfl .nil))) ?_
    refine wc_region ?_
    refine wl_move rfl rfl ?_
    refine wl_add rfl rfl (by first | omega | (simp; omega)) (by first | omega | (simp; omega)) rfl ?_
    refine wl_assign rfl rfl ?_
    refine wl_nil ?_
    have hn9 := pidsE_yes (pr := (fun _ => true)) he (rfl)
    exact qs_round (L1 := [(3, _), (4, _), (5, intV ((i + 1 : Nat) : Int))]) (.cons rfl (.cons rfl (.cons rfl .nil))) (k1 := es.length - (i + 1)) (by omega) ⟨i + 1, _, _, rfl, rfl, (by rw [hn9]; exact hS6.pick [1, 2, 3, 4, 5] rfl), by omega⟩
  refine wc_exit ?_
  refine qs_then_exit ?_
  refine qs_then_exit ?_
  refine qs_block_exit ?_
  refine qs_seq ?_
  refine wc_seq ?_
  refine wc_region ?_
  refine wl_move rfl rfl ?_
  refine wl_assign rfl rfl ?_
  refine wl_nil ?_
  refine qs_seq ?_
  refine wc_ret ?_
  refine fin1 (.inr rfl) rfl rfl ?_
  exact ⟨_, rfl, kl, hkl, (by have h5 := pidsF_few W (fun _ => true) kl; have h6 := recs_all W (fun _ => true) kl; have h7 := congrArg List.length hes; rw [List.length_map] at h7; omega), (by rw [← pidsE_end (pr := (fun _ => true)) hes (show es.length ≤ i by omega)]; exact hS2.pick [0, 3, 4] rfl)⟩
set_option maxRecDepth 100000 in
set_option maxHeartbeats 1000000 in
theorem qChildren_sp {w : World} {p n : Nat} {W : WS} {F : Th} (hS : Sat w [refP p W n, F]) (hn : n ≤ 900) (hB : TB W) (pid : Int) :
    Calls Tryz.prog 41 #[ptrV p 0, intV pid] w (Ret fun v w' => ∃ kl, KeysOf W.cells [80, 47] kl ∧ (pidsF W (fun x => decide (hq x 1 = pid)) kl).length ≤ n ∧ Sat w' [rowT inC v (pidsF W (fun x => decide (hq x 1 = pid)) kl), refP p W n, F]) := by
  refine calls_enter Tryz.func41 rfl Tryz.ntmps41 rfl ?_
  refine wc_seq ?_
  refine wc_region ?_
  refine wl_assign rfl rfl ?_
  refine wl_nil ?_
  refine qs_seq ?_
  refine wc_seq ?_
  refine wc_region ?_
  refine wl_assign rfl rfl ?_
  refine wl_nil ?_
  refine qs_seq ?_
  refine wc_seq ?_
  refine wc_region ?_
  refine wl_move rfl rfl ?_
  have hC1 := hS.split [0] [true, false] rfl; dsimp only [selF, pickA, nthA, List.cons_append, List.nil_append] at hC1
  refine wl_call cal_96 rfl (qRecords_sp hC1 hn hB) rfl ?_
  rintro e w1 ⟨_, rfl, es, kl, hkl, hes, hel, hS1⟩; refine ⟨_, rfl, ?_⟩
  replace hS1 := hS1.join rfl; dsimp only [List.dropLast, List.cons_append, List.nil_append] at hS1; clear hC1
  refine wl_assign rfl rfl ?_
  refine wl_nil ?_
  refine qs_seq ?_
  refine wc_seq ?_
  refine wc_seq ?_
  refine wc_region ?_
  refine wl_assign rfl rfl ?_
  refine wl_nil ?_
  refine qs_seq ?_
  refine wc_block ?_
  refine wc_loop (fun K0 E0 W0 => ∃ (i : Nat) (ov lv : Value), K0 = es.length - i ∧ E0 = [(0, ptrV p 0), (1, intV pid), (5, ov), (6, lv), (7, intV (i : Int))] ∧ Sat W0 [rowT inC ov (pidsE (fun x => decide (hq x 1 = pid)) (es.take i)), rowT prC lv es, starL (es.map inT), refP p W n, F] ∧ (i ≤ es.length)) (L0 := [(0, _), (1, _), (5, _), (6, _), (7, _)]) (es.length - 0) (.cons rfl (.cons rfl (.cons rfl (.cons rfl (.cons rfl .nil))))) ⟨0, _, _, rfl, rfl, (hS1.row_nil inC).pick [0, 1, 2, 3, 4] rfl, by omega⟩ ?_
  rintro _ _ w2 ⟨i, ov, lv, rfl, rfl, hS2, hi⟩
  have h1ov : ov.oneCell' = true := hS2.own_one 0 rfl
  have hpl := pidsE_len (fun x => decide (hq x 1 = pid)) (es.take i)
  have htk : (es.take i).length ≤ es.length := by rw [List.length_take]; omega
  refine wc_seq ?_
  refine wc_seq ?_
  refine wc_region ?_
  refine wl_move rfl rfl ?_
  refine wl_move rfl rfl ?_
  first | refine wl_lenL Tryz.underlying53 rfl rfl ?_ | refine wl_lenO 0 hS2 Tryz.underlying53 rfl rfl rfl ?_ | refine wl_lenO 1 hS2 Tryz.underlying53 rfl rfl rfl ?_
  refine wl_lss rfl rfl rfl ?_
  refine wl_nil ?_
  refine qs_seq ?_
  refine wc_condD rfl (fun h3 => ?_) (fun h3 => ?_)
  · skip
    obtain ⟨e, he⟩ : ∃ e, es[i]? = some e := ⟨_, List.getElem?_eq_getElem (by omega)⟩
    refine wc_skip ?_
    refine qs_seq ?_
    refine wc_seq ?_
    refine wc_block ?_
    refine wc_seq ?_
    refine wc_region ?_
    refine wl_move rfl rfl ?_
    refine wl_move rfl rfl ?_
    refine wl_rowIdx prC 1 i hS2 rfl rfl rfl (by first | rfl | omega) he es_53 rfl ?_
    intro bx4 capx4 hvx4
    refine wl_fieldAddr rfl fo_38_1 rfl ?_
    refine wl_rowLoad 1 i 1 hS2 rfl hvx4 rfl rfl he ag_3 rfl rfl ?_
    refine wl_move rfl rfl ?_
    refine wl_eql rfl rfl rfl ?_
    refine wl_nil ?_
    refine qs_seq ?_
    refine wc_sub (L' := [(22, _), (0, _), (1, _), (5, _), (6, _), (7, _)]) (.cons rfl (.cons rfl (.cons rfl (.cons rfl (.cons rfl (.cons rfl .nil)))))) ?_
    refine wc_condD rfl (fun h5 => ?_) (fun h5 => ?_)
    · skip
      refine wc_region ?_
      refine wl_move rfl rfl ?_
      refine wl_move rfl rfl ?_
      refine wl_move rfl rfl ?_
      refine wl_rowIdx prC 1 i hS2 rfl rfl rfl (by first | rfl | omega) he es_53 rfl ?_
      intro bx6 capx6 hvx6
      refine wl_fieldAddr rfl fo_38_0 rfl ?_
      refine wl_rowLoad 1 i 0 hS2 rfl hvx6 rfl rfl he ag_3 rfl rfl ?_
      refine wl_rowBuild inC [hq e.x 0] hS2 rfl Tryz.underlying46 ifz_3 rfl rfl rfl rfl (by first | rfl | simp [RowC.cells, fillL, splice]) rfl ?_
      intro b7 w7 hS7
      clear hS2
      refine wl_rowApp inC 1 hS7 rfl rfl rfl (hS7.rd 0 rfl (by simp)) Tryz.underlying46 Tryz.underlying46 (by intro k hk; cases hk) ifo_3 rfl (by simp only [List.length_cons, List.length_nil]; omega) rfl (by simp only [List.length_cons, List.length_nil]; omega) ?_
      intro v8 w8 hS8; dsimp only [List.set] at hS8
      clear hS7
      have h1v8 : v8.oneCell' = true := hS8.own_one 1 rfl
      refine wl_assign rfl rfl ?_
      refine wl_nil ?_
      refine qs_block_normal ?_
      refine qs_seq ?_
      refine wc_sub (L' := [(5, _), (0, _), (1, _), (6, _), (7, _)]) (.cons rfl (.cons rfl (.cons rfl (.cons rfl (.cons rfl .nil))))) ?_
      refine wc_region ?_
      refine wl_move rfl rfl ?_
      refine wl_add rfl rfl (by first | omega | (simp; omega)) (by first | omega | (simp; omega)) rfl ?_
      refine wl_assign rfl rfl ?_
      refine wl_nil ?_
      have hn9 := pidsE_yes (pr := (fun x => decide (hq x 1 = pid))) he (by simp_all)
      exact qs_round (L1 := [(0, _), (1, _), (5, _), (6, _), (7, intV ((i + 1 : Nat) : Int))]) (.cons rfl (.cons rfl (.cons rfl (.cons rfl (.cons rfl .nil))))) (k1 := es.length - (i + 1)) (by omega) ⟨i + 1, _, _, rfl, rfl, (by rw [hn9]; exact hS8.pick [1, 2, 3, 4, 5] rfl), by omega⟩
    refine wc_skip ?_
    refine qs_block_normal ?_
    refine qs_seq ?_
    refine wc_region ?_
    refine wl_move rfl rfl ?_
    refine wl_add rfl rfl (by first | omega | (simp; omega)) (by first | omega | (simp; omega)) rfl ?_
    refine wl_assign rfl rfl ?_
    refine wl_nil ?_
    have hn9 := pidsE_no (pr := (fun x => decide (hq x 1 = pid))) he (by simp_all)
    exact qs_round (L1 := [(0, _), (1, _), (5, _), (6, _), (7, intV ((i + 1 : Nat) : Int))]) (.cons rfl (.cons rfl (.cons rfl (.cons rfl (.cons rfl .nil))))) (k1 := es.length - (i + 1)) (by omega) ⟨i + 1, _, _, rfl, rfl, (by rw [hn9]; exact hS2.pick [0, 1, 2, 3, 4] rfl), by omega⟩
  refine wc_exit ?_
  refine qs_then_exit ?_
  refine qs_then_exit ?_
  refine qs_block_exit ?_
  refine qs_seq ?_
  refine wc_seq ?_
  refine wc_region ?_
  refine wl_move rfl rfl ?_
  refine wl_assign rfl rfl ?_
  refine wl_nil ?_
  refine qs_seq ?_
  refine wc_sub (L' := [(4, _)]) (.cons rfl .nil) ?_
  refine wc_ret ?_
  refine fin1 (.inr rfl) rfl rfl ?_
  exact ⟨_, rfl, kl, hkl, (by have h5 := pidsF_few W (fun x => decide (hq x 1 = pid)) kl; have h6 := recs_all W (fun x => decide (hq x 1 = pid)) kl; have h7 := congrArg List.length hes; rw [List.length_map] at h7; omega), (by rw [← pidsE_end (pr := (fun x => decide (hq x 1 = pid))) hes (show es.length ≤ i by omega)]; exact hS2.pick [0, 3, 4] rfl)⟩
set_option maxRecDepth 100000 in
set_option maxHeartbeats 1000000 in
theorem qGroup_sp {w : World} {p n : Nat} {W : WS} {F : Th} (hS : Sat w [refP p W n, F]) (hn : n ≤ 900) (hB : TB W) (pid : Int) :
    Calls Tryz.prog 43 #[ptrV p 0, intV pid] w (Ret fun v w' => ∃ kl, KeysOf W.cells [80, 47] kl ∧ (pidsF W (fun x => decide (hq x 2 = pid) && decide (hq x 5 ≠ 3)) kl).length ≤ n ∧ Sat w' [rowT inC v (pidsF W (fun x => decide (hq x 2 = pid) && decide (hq x 5 ≠ 3)) kl), refP p W n, F]) := by
  refine calls_enter Tryz.func43 rfl Tryz.ntmps43 rfl ?_
  refine wc_seq ?_
  refine wc_region ?_
  refine wl_assign rfl rfl ?_
  refine wl_nil ?_
  refine qs_seq ?_
  refine wc_seq ?_
  refine wc_region ?_
  refine wl_assign rfl rfl ?_
  refine wl_nil ?_
  refine qs_seq ?_
  refine wc_seq ?_
  refine wc_region ?_
  refine wl_move rfl rfl ?_
  have hC1 := hS.split [0] [true, false] rfl; dsimp only [selF, pickA, nthA, List.cons_append, List.nil_append] at hC1
  refine wl_call cal_96 rfl (qRecords_sp hC1 hn hB) rfl ?_
  rintro e w1 ⟨_, rfl, es, kl, hkl, hes, hel, hS1⟩; refine ⟨_, rfl, ?_⟩
  replace hS1 := hS1.join rfl; dsimp only [List.dropLast, List.cons_append, List.nil_append] at hS1; clear hC1
  refine wl_assign rfl rfl ?_
  refine wl_nil ?_
  refine qs_seq ?_
  refine wc_seq ?_
  refine wc_seq ?_
  refine wc_region ?_
  refine wl_assign rfl rfl ?_
  refine wl_nil ?_
  refine qs_seq ?_
  refine wc_block ?_
  refine wc_loop (fun K0 E0 W0 => ∃ (i : Nat) (ov lv : Value), K0 = es.length - i ∧ E0 = [(0, ptrV p 0), (1, intV pid), (5, ov), (6, lv), (7, intV (i : Int))] ∧ Sat W0 [rowT inC ov (pidsE (fun x => decide (hq x 2 = pid) && decide (hq x 5 ≠ 3)) (es.take i)), rowT prC lv es, starL (es.map inT), refP p W n, F] ∧ (i ≤ es.length)) (L0 := [(0, _), (1, _), (5, _), (6, _), (7, _)]) (es.length - 0) (.cons rfl (.cons rfl (.cons rfl (.cons rfl (.cons rfl .nil))))) ⟨0, _, _, rfl, rfl, (hS1.row_nil inC).pick [0, 1, 2, 3, 4] rfl, by omega⟩ ?_
  rintro _ _ w2 ⟨i, ov, lv, rfl, rfl, hS2, hi⟩
  have h1ov : ov.oneCell' = true := hS2.own_one 0 rfl
  have hpl := pidsE_len (fun x => decide (hq x 2 = pid) && decide (hq x 5 ≠ 3)) (es.take i)
  have htk : (es.take i).length ≤ es.length := by rw [List.length_take]; omega
  refine wc_seq ?_
  refine wc_seq ?_
  refine wc_region ?_
  refine wl_move rfl rfl ?_
  refine wl_move rfl rfl ?_
  first | refine wl_lenL Tryz.underlying53 rfl rfl ?_ | refine wl_lenO 0 hS2 Tryz.underlying53 rfl rfl rfl ?_ | refine wl_lenO 1 hS2 Tryz.underlying53 rfl rfl rfl ?_
  refine wl_lss rfl rfl rfl ?_
  refine wl_nil ?_
  refine qs_seq ?_
  refine wc_condD rfl (fun h3 => ?_) (fun h3 => ?_)
  · skip
    obtain ⟨e, he⟩ : ∃ e, es[i]? = some e := ⟨_, List.getElem?_eq_getElem (by omega)⟩
    refine wc_skip ?_
    refine qs_seq ?_
    refine wc_seq ?_
    refine wc_block ?_
    refine wc_seq ?_
    refine wc_region ?_
    refine wl_move rfl rfl ?_
    refine wl_move rfl rfl ?_
    refine wl_rowIdx prC 1 i hS2 rfl rfl rfl (by first | rfl | omega) he es_53 rfl ?_
    intro bx4 capx4 hvx4
    refine wl_fieldAddr rfl fo_38_2 rfl ?_
    refine wl_rowLoad 1 i 2 hS2 rfl hvx4 rfl rfl he ag_3 rfl rfl ?_
    refine wl_move rfl rfl ?_
    refine wl_eql rfl rfl rfl ?_
    refine wl_move rfl rfl ?_
    refine wl_splitD 23 rfl (fun h5 => ?_) (fun h5 => ?_)
    · skip
      refine wl_guard rfl rfl (decide_eq_true h5) ?_
      refine wl_move rfl rfl ?_
      refine wl_guard rfl rfl (decide_eq_true h5) ?_
      refine wl_move rfl rfl ?_
      refine wl_guard rfl rfl (decide_eq_true h5) ?_
      refine wl_rowIdx prC 1 i hS2 rfl rfl rfl (by first | rfl | omega) he es_53 rfl ?_
      intro bx6 capx6 hvx6
      refine wl_guard rfl rfl (decide_eq_true h5) ?_
      refine wl_fieldAddr rfl fo_38_5 rfl ?_
      refine wl_guard rfl rfl (decide_eq_true h5) ?_
      refine wl_rowLoad 1 i 5 hS2 rfl hvx6 rfl rfl he ag_3 rfl rfl ?_
      refine wl_guard rfl rfl (decide_eq_true h5) ?_
      refine wl_neq rfl rfl rfl ?_
      refine wl_pickT rfl (decide_eq_true h5) rfl rfl ?_
      refine wl_nil ?_
      refine qs_seq ?_
      refine wc_sub (L' := [(30, _), (0, _), (1, _), (5, _), (6, _), (7, _)]) (.cons rfl (.cons rfl (.cons rfl (.cons rfl (.cons rfl (.cons rfl .nil)))))) ?_
      refine wc_condD rfl (fun h7 => ?_) (fun h7 => ?_)
      · skip
        refine wc_region ?_
        refine wl_move rfl rfl ?_
        refine wl_move rfl rfl ?_
        refine wl_move rfl rfl ?_
        refine wl_rowIdx prC 1 i hS2 rfl rfl rfl (by first | rfl | omega) he es_53 rfl ?_
        intro bx8 capx8 hvx8
        refine wl_fieldAddr rfl fo_38_0 rfl ?_
        refine wl_rowLoad 1 i 0 hS2 rfl hvx8 rfl rfl he ag_3 rfl rfl ?_
        refine wl_rowBuild inC [hq e.x 0] hS2 rfl Tryz.underlying46 ifz_3 rfl rfl rfl rfl (by first | rfl | simp [RowC.cells, fillL, splice]) rfl ?_
        intro b9 w9 hS9
        clear hS2
        refine wl_rowApp inC 1 hS9 rfl rfl rfl (hS9.rd 0 rfl (by simp)) Tryz.underlying46 Tryz.underlying46 (by intro k hk; cases hk) ifo_3 rfl (by simp only [List.length_cons, List.length_nil]; omega) rfl (by simp only [List.length_cons, List.length_nil]; omega) ?_
        intro v10 w10 hS10; dsimp only [List.set] at hS10
        clear hS9
        have h1v10 : v10.oneCell' = true := hS10.own_one 1 rfl
        refine wl_assign rfl rfl ?_
        refine wl_nil ?_
        refine qs_block_normal ?_
        refine qs_seq ?_
        refine wc_sub (L' := [(5, _), (0, _), (1, _), (6, _), (7, _)]) (.cons rfl (.cons rfl (.cons rfl (.cons rfl (.cons rfl .nil))))) ?_
        refine wc_region ?_
        refine wl_move rfl rfl ?_
        refine wl_add rfl rfl (by first | omega | (simp; omega)) (by first | omega | (simp; omega)) rfl ?_
        refine wl_assign rfl rfl ?_
        refine wl_nil ?_
        have hn9 := pidsE_yes (pr := (fun x => decide (hq x 2 = pid) && decide (hq x 5 ≠ 3))) he (by simp_all)
        exact qs_round (L1 := [(0, _), (1, _), (5, _), (6, _), (7, intV ((i + 1 : Nat) : Int))]) (.cons rfl (.cons rfl (.cons rfl (.cons rfl (.cons rfl .nil))))) (k1 := es.length - (i + 1)) (by omega) ⟨i + 1, _, _, rfl, rfl, (by rw [hn9]; exact hS10.pick [1, 2, 3, 4, 5] rfl), by omega⟩
      refine wc_skip ?_
      refine qs_block_normal ?_
      refine qs_seq ?_
      refine wc_region ?_
      refine wl_move rfl rfl ?_
      refine wl_add rfl rfl (by first | omega | (simp; omega)) (by first | omega | (simp; omega)) rfl ?_
      refine wl_assign rfl rfl ?_
      refine wl_nil ?_
      have hn9 := pidsE_no (pr := (fun x => decide (hq x 2 = pid) && decide (hq x 5 ≠ 3))) he (by simp_all)
      exact qs_round (L1 := [(0, _), (1, _), (5, _), (6, _), (7, intV ((i + 1 : Nat) : Int))]) (.cons rfl (.cons rfl (.cons rfl (.cons rfl (.cons rfl .nil))))) (k1 := es.length - (i + 1)) (by omega) ⟨i + 1, _, _, rfl, rfl, (by rw [hn9]; exact hS2.pick [0, 1, 2, 3, 4] rfl), by omega⟩
    refine wl_unwanted rfl rfl (decide_eq_false h5) rfl ?_
    refine wl_unwanted rfl rfl (decide_eq_false h5) rfl ?_
    refine wl_unwanted rfl rfl (decide_eq_false h5) rfl ?_
    refine wl_unwanted rfl rfl (decide_eq_false h5) rfl ?_
    refine wl_unwanted rfl rfl (decide_eq_false h5) rfl ?_
    refine wl_unwanted rfl rfl (decide_eq_false h5) rfl ?_
    refine wl_pickF rfl (decide_eq_false h5) rfl rfl ?_
    refine wl_nil ?_
    refine qs_seq ?_
    refine wc_sub (L' := [(30, _), (0, _), (1, _), (5, _), (6, _), (7, _)]) (.cons rfl (.cons rfl (.cons rfl (.cons rfl (.cons rfl (.cons rfl .nil)))))) ?_
    refine wc_condF rfl ?_
    refine wc_skip ?_
    refine qs_block_normal ?_
    refine qs_seq ?_
    refine wc_region ?_
    refine wl_move rfl rfl ?_
    refine wl_add rfl rfl (by first | omega | (simp; omega)) (by first | omega | (simp; omega)) rfl ?_
    refine wl_assign rfl rfl ?_
    refine wl_nil ?_
    have hn9 := pidsE_no (pr := (fun x => decide (hq x 2 = pid) && decide (hq x 5 ≠ 3))) he (by simp_all)
    exact qs_round (L1 := [(0, _), (1, _), (5, _), (6, _), (7, intV ((i + 1 : Nat) : Int))]) (.cons rfl (.cons rfl (.cons rfl (.cons rfl (.cons rfl .nil))))) (k1 := es.length - (i + 1)) (by omega) ⟨i + 1, _, _, rfl, rfl, (by rw [hn9]; exact hS2.pick [0, 1, 2, 3, 4] rfl), by omega⟩
  refine wc_exit ?_
  refine qs_then_exit ?_
  refine qs_then_exit ?_
  refine qs_block_exit ?_
  refine qs_seq ?_
  refine wc_seq ?_
  refine wc_region ?_
  refine wl_move rfl rfl ?_
  refine wl_assign rfl rfl ?_
  refine wl_nil ?_
  refine qs_seq ?_
  refine wc_sub (L' := [(4, _)]) (.cons rfl .nil) ?_
  refine wc_ret ?_
  refine fin1 (.inr rfl) rfl rfl ?_
  exact ⟨_, rfl, kl, hkl, (by have h5 := pidsF_few W (fun x => decide (hq x 2 = pid) && decide (hq x 5 ≠ 3)) kl; have h6 := recs_all W (fun x => decide (hq x 2 = pid) && decide (hq x 5 ≠ 3)) kl; have h7 := congrArg List.length hes; rw [List.length_map] at h7; omega), (by rw [← pidsE_end (pr := (fun x => decide (hq x 2 = pid) && decide (hq x 5 ≠ 3))) hes (show es.length ≤ i by omega)]; exact hS2.pick [0, 3, 4] rfl)⟩
end Go.Proofs.YtcbdclhoekokpaaGreatDoor
