/- laws of tty: TtyWaits -/
import Derived.Test.YtdkfppcafpjomaaDoorTg
namespace Go.Proofs.YtdkfppcafpjomaaDoor
open Go.RowKit M
set_option linter.unusedVariables false
theorem read_TR {l : List ItemD} (hr : rightB l = true) {pos : Nat} {part : Bs} {got over : Nat} (h : TR l pos part got over) {now n : Int} (hn : 1 ≤ n) : ∃ over', TR l (readX l pos part now n).2.1 (readX l pos part now n).2.2 (got + (readX l pos part now n).1.1.length) over' := by
  rcases read_step hr h (now := now) hn with ⟨_, q, _, h1⟩ | ⟨_, q, h1, _⟩ | ⟨_, _, _, _, _, _, h1⟩
  · exact ⟨_, by rw [q]; exact h1⟩
  · exact ⟨_, by rw [q]; exact h1⟩
  · exact ⟨_, h1⟩
set_option maxRecDepth 100000 in
set_option maxHeartbeats 4000000 in
theorem waits_law {w : World} {F : Th} (hS : Sat w [F]) (hG : Ent F WireG) {lv : Value} {l : List ItemD} (hL : Ent F (RdL itC lv l)) {ov : Value} {ol : List OpT} (hO : Ent F (OtRd ov ol)) :
    Calls Tryd.prog 4 #[lv, ov] w (Ret fun v w' => v = .bool true ∧ Sat w' [F]) := by
  obtain ⟨ao, cap, rfl, hmax⟩ := (hO.sat hS 0 rfl).shape
  refine calls_enter Tryd.func4 rfl Tryd.ntmps4 rfl ?_
  obtain ⟨ai, ci, rfl, hmi⟩ := (hL.sat hS 0 rfl).shape
  refine wc_seq ?_
  refine wc_region ?_
  refine wl_assign rfl rfl ?_
  refine wl_nil ?_
  refine qs_seq ?_
  refine wc_seq ?_
  refine wc_region ?_
  have hC1 := hS.split [] [false] rfl; dsimp only [selF, pickA, nthA, List.cons_append, List.nil_append] at hC1
  refine wl_call cal_7 rfl (tsmall_sp hC1 (hG.starL 0 rfl)) rfl ?_
  rintro e w1 ⟨_, rfl, rfl, hS1⟩; refine ⟨_, rfl, ?_⟩
  replace hS1 := hS1.join rfl; dsimp only [List.dropLast, List.cons_append, List.nil_append] at hS1; clear hC1
  refine wl_assign rfl rfl ?_
  refine wl_nil ?_
  refine qs_seq ?_
  refine wc_seq ?_
  refine wc_region ?_
  have hC2 := hS1.split [] [false] rfl; dsimp only [selF, pickA, nthA, List.cons_append, List.nil_append] at hC2
  refine wl_call cal_8 rfl (new_sp hC2) rfl ?_
  rintro e w2 ⟨_, rfl, p, rfl, hS2⟩; refine ⟨_, rfl, ?_⟩
  replace hS2 := hS2.join rfl; dsimp only [List.dropLast, List.cons_append, List.nil_append] at hS2; clear hC2
  clear hS1
  refine wl_assign rfl rfl ?_
  refine wl_nil ?_
  refine qs_seq ?_
  refine wc_seq ?_
  refine wc_seq ?_
  refine wc_region ?_
  refine wl_move rfl rfl ?_
  have hC3 := hS2.split [] [false, false] rfl; dsimp only [selF, pickA, nthA, List.cons_append, List.nil_append] at hC3
  refine wl_call cal_13 rfl (tfew_sp hC3 (hO.starL 1 rfl)) rfl ?_
  rintro e w3 ⟨_, rfl, rfl, hS3⟩; refine ⟨_, rfl, ?_⟩
  replace hS3 := hS3.join rfl; dsimp only [List.dropLast, List.cons_append, List.nil_append] at hS3; clear hC3
  clear hS2
  refine wl_not rfl rfl ?_
  refine wl_move rfl rfl ?_
  refine wl_split 23 rfl (fun h4 => ?_) (fun h4 => ?_)
  · skip
    refine wl_unwanted rfl rfl h4 rfl ?_
    refine wl_unwanted rfl rfl h4 rfl ?_
    refine wl_unwanted rfl rfl h4 rfl ?_
    refine wl_pickT rfl h4 rfl rfl ?_
    refine wl_move rfl rfl ?_
    refine wl_unwanted rfl rfl rfl rfl ?_
    refine wl_unwanted rfl rfl rfl rfl ?_
    refine wl_pickT rfl rfl rfl rfl ?_
    refine wl_nil ?_
    refine qs_seq ?_
    refine wc_sub (L' := [(31, _), (6, _), (5, _), (4, _), (0, _), (1, _)]) (.cons rfl (.cons rfl (.cons rfl (.cons rfl (.cons rfl (.cons rfl .nil)))))) ?_
    refine wc_condT rfl ?_
    refine wc_seq ?_
    refine wc_region ?_
    refine wl_move rfl rfl ?_
    refine wl_move rfl rfl ?_
    refine wl_guard rfl rfl rfl ?_
    refine wl_move rfl rfl ?_
    refine wl_guard rfl rfl rfl ?_
    refine wl_neqNil Tryd.underlying24 rfl rfl rfl ?_
    refine wl_pickT rfl rfl rfl rfl ?_
    refine wl_assign rfl rfl ?_
    refine wl_nil ?_
    refine qs_seq ?_
    refine wc_sub (L' := [(4, _), (6, _), (5, _), (0, _), (1, _)]) (.cons rfl (.cons rfl (.cons rfl (.cons rfl (.cons rfl .nil))))) ?_
    refine wc_ret ?_
    refine qs_then_ret ?_
    refine fin1 (.inr rfl) rfl rfl ?_
    exact ⟨_, rfl, by first | rfl | simp, hS3.pick [1] rfl⟩
  · skip
    refine wl_guard rfl rfl h4 ?_
    refine wl_move rfl rfl ?_
    refine wl_guard rfl rfl h4 ?_
    refine wl_lenL Tryd.underlying22 rfl rfl ?_
    refine wl_guard rfl rfl h4 ?_
    refine wl_gtr rfl rfl rfl ?_
    refine wl_pickF rfl h4 rfl rfl ?_
    refine wl_move rfl rfl ?_
    refine wl_splitD 28 rfl (fun h5 => ?_) (fun h5 => ?_)
    · skip
      refine wl_unwanted rfl rfl (decide_eq_true h5) rfl ?_
      refine wl_unwanted rfl rfl (decide_eq_true h5) rfl ?_
      refine wl_pickT rfl (decide_eq_true h5) rfl rfl ?_
      refine wl_nil ?_
      refine qs_seq ?_
      refine wc_sub (L' := [(31, _), (6, _), (5, _), (4, _), (0, _), (1, _)]) (.cons rfl (.cons rfl (.cons rfl (.cons rfl (.cons rfl (.cons rfl .nil)))))) ?_
      refine wc_condT rfl ?_
      refine wc_seq ?_
      refine wc_region ?_
      refine wl_move rfl rfl ?_
      refine wl_move rfl rfl ?_
      refine wl_guard rfl rfl rfl ?_
      refine wl_move rfl rfl ?_
      refine wl_guard rfl rfl rfl ?_
      refine wl_neqNil Tryd.underlying24 rfl rfl rfl ?_
      refine wl_pickT rfl rfl rfl rfl ?_
      refine wl_assign rfl rfl ?_
      refine wl_nil ?_
      refine qs_seq ?_
      refine wc_sub (L' := [(4, _), (6, _), (5, _), (0, _), (1, _)]) (.cons rfl (.cons rfl (.cons rfl (.cons rfl (.cons rfl .nil))))) ?_
      refine wc_ret ?_
      refine qs_then_ret ?_
      refine fin1 (.inr rfl) rfl rfl ?_
      exact ⟨_, rfl, by first | rfl | simp, hS3.pick [1] rfl⟩
    · skip
      refine wl_guard rfl rfl (decide_eq_false h5) ?_
      refine wl_move rfl rfl ?_
      refine wl_guard rfl rfl (decide_eq_false h5) ?_
      refine wl_eqlNil Tryd.underlying24 rfl rfl rfl ?_
      refine wl_pickF rfl (decide_eq_false h5) rfl rfl ?_
      refine wl_nil ?_
      refine qs_seq ?_
      refine wc_sub (L' := [(31, _), (6, _), (5, _), (4, _), (0, _), (1, _)]) (.cons rfl (.cons rfl (.cons rfl (.cons rfl (.cons rfl (.cons rfl .nil)))))) ?_
      refine wc_condF rfl ?_
      refine wc_skip ?_
      refine qs_seq ?_
      refine wc_seq ?_
      refine wc_seq ?_
      refine wc_region ?_
      refine wl_move rfl rfl ?_
      refine wl_makeIface nif_24 rfl rfl ?_
      refine wl_move rfl rfl ?_
      have hC6 := hS3.split [0] [true, false] rfl; dsimp only [selF, pickA, nthA, List.cons_append, List.nil_append] at hC6
      refine wl_call cal_9 rfl (fill_sp hC6 (hG.starL 0 rfl) (hL.starL 0 rfl) (by omega)) rfl ?_
      rintro e w6 ⟨_, rfl, rfl, hS6⟩; refine ⟨_, rfl, ?_⟩
      replace hS6 := hS6.join rfl; dsimp only [List.dropLast, List.cons_append, List.nil_append] at hS6; clear hC6
      clear hS3
      refine wl_neq rfl rfl rfl ?_
      refine wl_nil ?_
      refine qs_seq ?_
      refine wc_sub (L' := [(41, _), (6, _), (5, _), (4, _), (0, _), (1, _)]) (.cons rfl (.cons rfl (.cons rfl (.cons rfl (.cons rfl (.cons rfl .nil)))))) ?_
      refine wc_condD rfl (fun h7 => ?_) (fun h7 => ?_)
      · skip
        refine wc_seq ?_
        refine wc_region ?_
        refine wl_move rfl rfl ?_
        refine wl_assign rfl rfl ?_
        refine wl_nil ?_
        refine qs_seq ?_
        refine wc_ret ?_
        refine qs_then_ret ?_
        refine fin1 (.inr rfl) rfl rfl ?_
        exact ⟨_, rfl, by first | rfl | simp, hS6.pick [1] rfl⟩
      · skip
        have hfew : fewT ol = true := by simpa using (show (!fewT ol) = false by assumption)
        have hll := fewT_len hfew
        have hr : rightB l = true := fillE_right h7
        have hstl := typS_take hr l.length
        rw [List.take_length] at hstl
        have hrl := right_len hr
        refine wc_skip ?_
        refine qs_seq ?_
        refine wc_seq ?_
        refine wc_region ?_
        refine wl_move rfl rfl ?_
        have hC8 := hS6.split [] [false, false] rfl; dsimp only [selF, pickA, nthA, List.cons_append, List.nil_append] at hC8
        refine wl_call cal_14 rfl (typed_sp hC8 (hL.starL 1 rfl) hr) rfl ?_
        rintro e w8 ⟨_, rfl, ev, av, rfl, hS8⟩; refine ⟨_, rfl, ?_⟩
        replace hS8 := hS8.join rfl; dsimp only [List.dropLast, List.cons_append, List.nil_append] at hS8; clear hC8
        clear hS6
        refine wl_move rfl rfl ?_
        refine wl_extract rfl rfl rfl ?_
        refine wl_extract rfl rfl rfl ?_
        refine wl_extract rfl rfl rfl ?_
        refine wl_assign rfl rfl ?_
        refine wl_assign rfl rfl ?_
        refine wl_assign rfl rfl ?_
        refine wl_nil ?_
        refine qs_seq ?_
        refine wc_sub (L' := [(9, _), (6, _), (5, _), (4, _), (1, _)]) (.cons rfl (.cons rfl (.cons rfl (.cons rfl (.cons rfl .nil))))) ?_
        refine wc_seq ?_
        refine wc_region ?_
        refine wl_assign rfl rfl ?_
        refine wl_nil ?_
        refine qs_seq ?_
        refine wc_seq ?_
        refine wc_region ?_
        refine wl_assign rfl rfl ?_
        refine wl_nil ?_
        refine qs_seq ?_
        refine wc_seq ?_
        refine wc_seq ?_
        refine wc_region ?_
        refine wl_assign rfl rfl ?_
        refine wl_nil ?_
        refine qs_seq ?_
        refine wc_block ?_
        refine wc_loop (fun K0 E0 W0 => ∃ (i : Nat) (pos : Nat) (ctl : Nat) (got : Nat) (over : Nat) (part : Bs) (W : WS) (now : Int), K0 = ol.length - i ∧ E0 = [(1, .slice ao ol.length cap), (5, .bool true), (6, ptrV p 0), (9, av), (10, intV (got : Int)), (11, intV now), (12, intV (i : Int))] ∧ Sat W0 [rowT inC av (typA l), worldT p W, F] ∧ (i ≤ ol.length) ∧ (TI W l pos ctl part) ∧ (TR l pos part got over) ∧ (TB W) ∧ (PT l part got now)) (L0 := [(1, _), (5, _), (6, _), (9, _), (10, _), (11, _), (12, _)]) (ol.length - 0) (.cons rfl (.cons rfl (.cons rfl (.cons rfl (.cons rfl (.cons rfl (.cons rfl .nil))))))) ⟨0, 0, 0, 0, 0, [], _, 0, rfl, rfl, hS8.pick [1, 2, 3] rfl, by omega, TI.fill hr, TR.start l, TB.empty.fill l, fun m h1 h2 => absurd h2 (by simp)⟩ ?_
        rintro _ _ w9 ⟨i, pos, ctl, got, over, part, W, now, rfl, rfl, hS9, hi, hT, hR, hB, hP⟩
        have hgl := hR.got_le
        have hal := typA_len l
        refine wc_seq ?_
        refine wc_seq ?_
        refine wc_region ?_
        refine wl_move rfl rfl ?_
        refine wl_move rfl rfl ?_
        first | refine wl_lenL Tryd.underlying35 rfl rfl ?_ | refine wl_lenO 0 hS9 Tryd.underlying35 rfl rfl rfl ?_
        refine wl_lss rfl rfl rfl ?_
        refine wl_nil ?_
        refine qs_seq ?_
        refine wc_sub (L' := [(52, _), (1, _), (5, _), (6, _), (9, _), (10, _), (11, _), (12, _)]) (.cons rfl (.cons rfl (.cons rfl (.cons rfl (.cons rfl (.cons rfl (.cons rfl (.cons rfl .nil)))))))) ?_
        refine wc_condD rfl (fun h10 => ?_) (fun h10 => ?_)
        · skip
          obtain ⟨o, ho⟩ : ∃ o, ol[i]? = some o := ⟨_, List.getElem?_eq_getElem (by omega)⟩
          obtain ⟨⟨b, off, rfl, hc⟩, hil, hin⟩ := (hO.sat hS9 2 rfl).get ho
          have hLo : Ent F (RdL itC o.lv o.l) := fun g => (RdX.elem hO ho g).1
          have hos := fewT_get hfew ho
          have hoi : i < ol.length := (List.getElem?_eq_some_iff.1 ho).1
          refine wc_skip ?_
          refine qs_seq ?_
          refine wc_seq ?_
          refine wc_block ?_
          refine wc_seq ?_
          refine wc_region ?_
          refine wl_move rfl rfl ?_
          refine wl_move rfl rfl ?_
          refine wl_indexAddr i rfl rfl (by first | rfl | omega) (by omega) es_35 rfl ?_
          refine wl_fieldAddr rfl fo_41_0 rfl ?_
          refine wl_load rfl ag_3 (((hO.sat hS9 2 rfl).cells ho) 0 _ rfl) rfl ?_
          refine wl_mask 4 rfl rfl rfl rfl (q := 16) rfl rfl ?_
          refine wl_assign rfl rfl ?_
          refine wl_nil ?_
          refine qs_seq ?_
          refine wc_sub (L' := [(13, _), (1, _), (5, _), (6, _), (9, _), (10, _), (11, _), (12, _)]) (.cons rfl (.cons rfl (.cons rfl (.cons rfl (.cons rfl (.cons rfl (.cons rfl (.cons rfl .nil)))))))) ?_
          refine wc_seq ?_
          refine wc_region ?_
          refine wl_move rfl rfl ?_
          refine wl_move rfl rfl ?_
          refine wl_move rfl rfl ?_
          refine wl_indexAddr i rfl rfl (by first | rfl | omega) (by omega) es_35 rfl ?_
          refine wl_fieldAddr rfl fo_41_1 rfl ?_
          refine wl_load rfl ag_3 (((hO.sat hS9 2 rfl).cells ho) 1 _ rfl) rfl ?_
          refine wl_maxI rfl rfl rfl ?_
          refine wl_assign rfl rfl ?_
          refine wl_nil ?_
          refine qs_seq ?_
          refine wc_sub (L' := [(11, _), (13, _), (1, _), (5, _), (6, _), (9, _), (10, _), (12, _)]) (.cons rfl (.cons rfl (.cons rfl (.cons rfl (.cons rfl (.cons rfl (.cons rfl (.cons rfl .nil)))))))) ?_
          refine wc_seq ?_
          refine wc_seq ?_
          refine wc_region ?_
          refine wl_move rfl rfl ?_
          refine wl_geq rfl rfl rfl ?_
          refine wl_move rfl rfl ?_
          refine wl_splitD 70 rfl (fun h11 => ?_) (fun h11 => ?_)
          · skip
            refine wl_guard rfl rfl (decide_eq_true h11) ?_
            refine wl_move rfl rfl ?_
            refine wl_guard rfl rfl (decide_eq_true h11) ?_
            refine wl_leq rfl rfl rfl ?_
            refine wl_pickT rfl (decide_eq_true h11) rfl rfl ?_
            refine wl_move rfl rfl ?_
            refine wl_splitD 74 rfl (fun h12 => ?_) (fun h12 => ?_)
            · skip
              refine wl_unwanted rfl rfl (decide_eq_true h12) rfl ?_
              refine wl_unwanted rfl rfl (decide_eq_true h12) rfl ?_
              refine wl_unwanted rfl rfl (decide_eq_true h12) rfl ?_
              refine wl_unwanted rfl rfl (decide_eq_true h12) rfl ?_
              refine wl_unwanted rfl rfl (decide_eq_true h12) rfl ?_
              refine wl_unwanted rfl rfl (decide_eq_true h12) rfl ?_
              refine wl_pickT rfl (decide_eq_true h12) rfl rfl ?_
              refine wl_nil ?_
              refine qs_seq ?_
              refine wc_sub (L' := [(81, _), (11, _), (1, _), (5, _), (6, _), (9, _), (10, _), (12, _)]) (.cons rfl (.cons rfl (.cons rfl (.cons rfl (.cons rfl (.cons rfl (.cons rfl (.cons rfl .nil)))))))) ?_
              refine wc_condT rfl ?_
              refine wc_exit ?_
              refine qs_then_exit ?_
              refine qs_block_exit ?_
              refine qs_seq ?_
              refine wc_region ?_
              refine wl_move rfl rfl ?_
              refine wl_add rfl rfl (by first | omega | (simp; omega)) (by first | omega | (simp; omega)) rfl ?_
              refine wl_assign rfl rfl ?_
              refine wl_nil ?_
              exact qs_round (L1 := [(1, _), (5, _), (6, _), (9, _), (10, _), (11, _), (12, intV ((i + 1 : Nat) : Int))]) (.cons rfl (.cons rfl (.cons rfl (.cons rfl (.cons rfl (.cons rfl (.cons rfl .nil))))))) (k1 := ol.length - (i + 1)) (by omega) ⟨i + 1, pos, ctl, got, over, part, W, (max now o.now), rfl, rfl, hS9.pick [0, 1, 2] rfl, by omega, hT, hR, hB, hP.mono (by omega)⟩
            · skip
              refine wl_guard rfl rfl (decide_eq_false h12) ?_
              refine wl_move rfl rfl ?_
              refine wl_guard rfl rfl (decide_eq_false h12) ?_
              refine wl_move rfl rfl ?_
              refine wl_guard rfl rfl (decide_eq_false h12) ?_
              refine wl_indexAddr i rfl rfl (by first | rfl | omega) (by omega) es_35 rfl ?_
              refine wl_guard rfl rfl (decide_eq_false h12) ?_
              refine wl_fieldAddr rfl fo_41_2 rfl ?_
              refine wl_guard rfl rfl (decide_eq_false h12) ?_
              refine wl_load rfl ag_3 (((hO.sat hS9 2 rfl).cells ho) 2 _ rfl) rfl ?_
              refine wl_guard rfl rfl (decide_eq_false h12) ?_
              refine wl_lss rfl rfl rfl ?_
              refine wl_pickF rfl (decide_eq_false h12) rfl rfl ?_
              refine wl_nil ?_
              refine qs_seq ?_
              refine wc_sub (L' := [(81, _), (11, _), (1, _), (5, _), (6, _), (9, _), (10, _), (12, _)]) (.cons rfl (.cons rfl (.cons rfl (.cons rfl (.cons rfl (.cons rfl (.cons rfl (.cons rfl .nil)))))))) ?_
              refine wc_condD rfl (fun h13 => ?_) (fun h13 => ?_)
              · skip
                refine wc_exit ?_
                refine qs_then_exit ?_
                refine qs_block_exit ?_
                refine qs_seq ?_
                refine wc_region ?_
                refine wl_move rfl rfl ?_
                refine wl_add rfl rfl (by first | omega | (simp; omega)) (by first | omega | (simp; omega)) rfl ?_
                refine wl_assign rfl rfl ?_
                refine wl_nil ?_
                exact qs_round (L1 := [(1, _), (5, _), (6, _), (9, _), (10, _), (11, _), (12, intV ((i + 1 : Nat) : Int))]) (.cons rfl (.cons rfl (.cons rfl (.cons rfl (.cons rfl (.cons rfl (.cons rfl .nil))))))) (k1 := ol.length - (i + 1)) (by omega) ⟨i + 1, pos, ctl, got, over, part, W, (max now o.now), rfl, rfl, hS9.pick [0, 1, 2] rfl, by omega, hT, hR, hB, hP.mono (by omega)⟩
              · skip
                refine wc_skip ?_
                refine qs_seq ?_
                refine wc_seq ?_
                refine wc_region ?_
                refine wl_move rfl rfl ?_
                refine wl_makeIface nif_24 rfl rfl ?_
                refine wl_move rfl rfl ?_
                have hC14 := hS9.split [1] [false, true, false] rfl; dsimp only [selF, pickA, nthA, List.cons_append, List.nil_append] at hC14
                refine wl_call cal_15 rfl (ready_sp hC14 (hG.starL 1 rfl) hB (max now o.now)) rfl ?_
                rintro e w14 ⟨_, rfl, rfl, hS14⟩; refine ⟨_, rfl, ?_⟩
                replace hS14 := hS14.join rfl; dsimp only [List.dropLast, List.cons_append, List.nil_append] at hS14; clear hC14
                clear hS9
                refine wl_assign rfl rfl ?_
                refine wl_nil ?_
                refine qs_seq ?_
                refine wc_sub (L' := [(14, _), (11, _), (1, _), (5, _), (6, _), (9, _), (10, _), (12, _)]) (.cons rfl (.cons rfl (.cons rfl (.cons rfl (.cons rfl (.cons rfl (.cons rfl (.cons rfl .nil)))))))) ?_
                refine wc_seq ?_
                refine wc_region ?_
                refine wl_move rfl rfl ?_
                refine wl_makeIface nif_24 rfl rfl ?_
                refine wl_move rfl rfl ?_
                refine wl_move rfl rfl ?_
                refine wl_move rfl rfl ?_
                refine wl_indexAddr i rfl rfl (by first | rfl | omega) (by omega) es_35 rfl ?_
                refine wl_fieldAddr rfl fo_41_2 rfl ?_
                refine wl_load rfl ag_3 (((hO.sat hS14 2 rfl).cells ho) 2 _ rfl) rfl ?_
                have hC15 := hS14.split [0] [true, false, false] rfl; dsimp only [selF, pickA, nthA, List.cons_append, List.nil_append] at hC15
                refine wl_call cal_16 rfl (readT_sp hC15 (hG.starL 1 rfl) hB (max now o.now) o.n) rfl ?_
                rintro e w15 ⟨_, rfl, rfl, hS15⟩; refine ⟨_, rfl, ?_⟩
                replace hS15 := hS15.join rfl; dsimp only [List.dropLast, List.cons_append, List.nil_append] at hS15; clear hC15
                clear hS14
                refine wl_move rfl rfl ?_
                refine wl_extract rfl rfl rfl ?_
                refine wl_extract rfl rfl rfl ?_
                refine wl_assign rfl rfl ?_
                refine wl_assign rfl rfl ?_
                refine wl_nil ?_
                refine qs_seq ?_
                refine wc_sub (L' := [(16, _), (15, _), (14, _), (11, _), (1, _), (5, _), (6, _), (9, _), (10, _), (12, _)]) (.cons rfl (.cons rfl (.cons rfl (.cons rfl (.cons rfl (.cons rfl (.cons rfl (.cons rfl (.cons rfl (.cons rfl .nil)))))))))) ?_
                refine wc_seq ?_
                refine wc_seq ?_
                have hn1 : 1 ≤ o.n := by omega
                have hT2 := hT.read (max now o.now) o.n
                rw [hT.ready, hT.readV, ready_read hn1]
                obtain ⟨ov2, hR2⟩ := read_TR hr hR (now := (max now o.now)) hn1
                have hti := read_times hr hR hn1 (hP.mono (show now ≤ (max now o.now) by omega))
                have hgl2 := hR2.got_le
                refine wc_region ?_
                refine wl_move rfl rfl ?_
                refine wl_move rfl rfl ?_
                refine wl_neq rfl rfl rfl ?_
                refine wl_neqB Tryd.underlying4 rfl rfl rfl ?_
                refine wl_move rfl rfl ?_
                refine wl_split 102 rfl (fun h16 => ?_) (fun h16 => ?_)
                · skip
                  simp at h16
                · skip
                  refine wl_guard rfl rfl h16 ?_
                  refine wl_move rfl rfl ?_
                  refine wl_guard rfl rfl h16 ?_
                  refine wl_move rfl rfl ?_
                  refine wl_guard rfl rfl h16 ?_
                  refine wl_lenS Tryd.underlying9 rfl rfl ?_
                  refine wl_guard rfl rfl h16 ?_
                  refine wl_add rfl rfl (by first | omega | (simp; omega)) (by first | omega | (simp; omega)) rfl ?_
                  refine wl_guard rfl rfl h16 ?_
                  refine wl_move rfl rfl ?_
                  refine wl_guard rfl rfl h16 ?_
                  first | refine wl_lenL Tryd.underlying37 rfl rfl ?_ | refine wl_lenO 1 hS15 Tryd.underlying37 rfl rfl rfl ?_
                  refine wl_guard rfl rfl h16 ?_
                  refine wl_gtr rfl rfl rfl ?_
                  refine wl_pickF rfl h16 rfl rfl ?_
                  refine wl_nil ?_
                  refine qs_seq ?_
                  refine wc_sub (L' := [(110, _), (15, _), (11, _), (1, _), (5, _), (6, _), (9, _), (10, _), (12, _)]) (.cons rfl (.cons rfl (.cons rfl (.cons rfl (.cons rfl (.cons rfl (.cons rfl (.cons rfl (.cons rfl .nil))))))))) ?_
                  refine wc_condD rfl (fun h17 => ?_) (fun h17 => ?_)
                  · skip
                    exact absurd h17 (by omega)
                  · skip
                    refine wc_skip ?_
                    refine qs_seq ?_
                    refine wc_seq ?_
                    refine wc_seq ?_
                    refine wc_region ?_
                    refine wl_move rfl rfl ?_
                    refine wl_assign rfl rfl ?_
                    refine wl_nil ?_
                    refine qs_seq ?_
                    refine wc_block ?_
                    refine wc_loop (fun K0 E0 W0 => ∃ (m : Nat), K0 = got + (readX l pos part (max now o.now) o.n).1.1.length - m ∧ E0 = [(1, .slice (some ⟨b, off, none⟩) ol.length cap), (5, .bool true), (6, ptrV p 0), (9, av), (10, intV (got : Int)), (11, intV (max now o.now)), (12, intV (i : Int)), (15, strV (readX l pos part (max now o.now) o.n).1.1), (17, intV (m : Int))] ∧ Sat W0 [rowT inC av (typA l), worldT p (readTW W (max now o.now) o.n), F] ∧ (got ≤ m) ∧ (m ≤ got + (readX l pos part (max now o.now) o.n).1.1.length)) (L0 := [(1, _), (5, _), (6, _), (9, _), (10, _), (11, _), (12, _), (15, _), (17, _)]) (got + (readX l pos part (max now o.now) o.n).1.1.length - got) (.cons rfl (.cons rfl (.cons rfl (.cons rfl (.cons rfl (.cons rfl (.cons rfl (.cons rfl (.cons rfl .nil))))))))) ⟨got, rfl, rfl, hS15.pick [1, 0, 2] rfl, by omega, by omega⟩ ?_
                    rintro _ _ w18 ⟨m, rfl, rfl, hS18, hm1, hm2⟩
                    refine wc_seq ?_
                    refine wc_seq ?_
                    refine wc_region ?_
                    refine wl_move rfl rfl ?_
                    refine wl_move rfl rfl ?_
                    refine wl_move rfl rfl ?_
                    refine wl_lenS Tryd.underlying9 rfl rfl ?_
                    refine wl_add rfl rfl (by first | omega | (simp; omega)) (by first | omega | (simp; omega)) rfl ?_
                    refine wl_lss rfl rfl rfl ?_
                    refine wl_nil ?_
                    refine qs_seq ?_
                    refine wc_sub (L' := [(117, _), (1, _), (5, _), (6, _), (9, _), (10, _), (11, _), (12, _), (15, _), (17, _)]) (.cons rfl (.cons rfl (.cons rfl (.cons rfl (.cons rfl (.cons rfl (.cons rfl (.cons rfl (.cons rfl (.cons rfl .nil)))))))))) ?_
                    refine wc_condD rfl (fun h19 => ?_) (fun h19 => ?_)
                    · skip
                      obtain ⟨t, hta, htn⟩ := hti.1 m hm1 (by omega)
                      refine wc_skip ?_
                      refine qs_seq ?_
                      refine wc_seq ?_
                      refine wc_block ?_
                      refine wc_seq ?_
                      refine wc_region ?_
                      refine wl_move rfl rfl ?_
                      refine wl_move rfl rfl ?_
                      refine wl_rowIdx inC 0 m hS18 rfl rfl rfl (by first | rfl | omega) hta es_37 rfl ?_
                      intro bx20 capx20 hvx20
                      refine wl_rowLoad 0 m 0 hS18 rfl hvx20 rfl rfl hta ag_3 rfl rfl ?_
                      refine wl_move rfl rfl ?_
                      refine wl_gtr rfl rfl rfl ?_
                      refine wl_nil ?_
                      refine qs_seq ?_
                      refine wc_sub (L' := [(125, _), (1, _), (5, _), (6, _), (9, _), (10, _), (11, _), (12, _), (15, _), (17, _)]) (.cons rfl (.cons rfl (.cons rfl (.cons rfl (.cons rfl (.cons rfl (.cons rfl (.cons rfl (.cons rfl (.cons rfl .nil)))))))))) ?_
                      refine wc_condD rfl (fun h21 => ?_) (fun h21 => ?_)
                      · skip
                        exact absurd h21 (by omega)
                      · skip
                        refine wc_skip ?_
                        refine qs_block_normal ?_
                        refine qs_seq ?_
                        refine wc_region ?_
                        refine wl_move rfl rfl ?_
                        refine wl_add rfl rfl (by first | omega | (simp; omega)) (by first | omega | (simp; omega)) rfl ?_
                        refine wl_assign rfl rfl ?_
                        refine wl_nil ?_
                        exact qs_round (L1 := [(1, _), (5, _), (6, _), (9, _), (10, _), (11, _), (12, _), (15, _), (17, intV ((m + 1 : Nat) : Int))]) (.cons rfl (.cons rfl (.cons rfl (.cons rfl (.cons rfl (.cons rfl (.cons rfl (.cons rfl (.cons rfl .nil))))))))) (k1 := got + (readX l pos part (max now o.now) o.n).1.1.length - (m + 1)) (by omega) ⟨m + 1, rfl, rfl, hS18.pick [0, 1, 2] rfl, by omega, by omega⟩
                    · skip
                      refine wc_exit ?_
                      refine qs_then_exit ?_
                      refine qs_then_exit ?_
                      refine qs_block_exit ?_
                      refine qs_seq ?_
                      refine wc_region ?_
                      refine wl_move rfl rfl ?_
                      refine wl_move rfl rfl ?_
                      refine wl_lenS Tryd.underlying9 rfl rfl ?_
                      refine wl_add rfl rfl (by first | omega | (simp; omega)) (by first | omega | (simp; omega)) rfl ?_
                      refine wl_assign rfl rfl ?_
                      refine wl_nil ?_
                      refine qs_block_normal ?_
                      refine qs_seq ?_
                      refine wc_sub (L' := [(10, _), (1, _), (5, _), (6, _), (9, _), (11, _), (12, _)]) (.cons rfl (.cons rfl (.cons rfl (.cons rfl (.cons rfl (.cons rfl (.cons rfl .nil))))))) ?_
                      refine wc_region ?_
                      refine wl_move rfl rfl ?_
                      refine wl_add rfl rfl (by first | omega | (simp; omega)) (by first | omega | (simp; omega)) rfl ?_
                      refine wl_assign rfl rfl ?_
                      refine wl_nil ?_
                      exact qs_round (L1 := [(1, _), (5, _), (6, _), (9, _), (10, _), (11, _), (12, intV ((i + 1 : Nat) : Int))]) (.cons rfl (.cons rfl (.cons rfl (.cons rfl (.cons rfl (.cons rfl (.cons rfl .nil))))))) (k1 := ol.length - (i + 1)) (by omega) ⟨i + 1, _, _, got + (readX l pos part (max now o.now) o.n).1.1.length, ov2, _, _, (max now o.now), rfl, rfl, hS18.pick [0, 1, 2] rfl, by omega, hT2, hR2, hB.read _ _, hti.2⟩
          · skip
            refine wl_unwanted rfl rfl (decide_eq_false h11) rfl ?_
            refine wl_unwanted rfl rfl (decide_eq_false h11) rfl ?_
            refine wl_pickF rfl (decide_eq_false h11) rfl rfl ?_
            refine wl_move rfl rfl ?_
            refine wl_guard rfl rfl rfl ?_
            refine wl_move rfl rfl ?_
            refine wl_guard rfl rfl rfl ?_
            refine wl_move rfl rfl ?_
            refine wl_guard rfl rfl rfl ?_
            refine wl_indexAddr i rfl rfl (by first | rfl | omega) (by omega) es_35 rfl ?_
            refine wl_guard rfl rfl rfl ?_
            refine wl_fieldAddr rfl fo_41_2 rfl ?_
            refine wl_guard rfl rfl rfl ?_
            refine wl_load rfl ag_3 (((hO.sat hS9 2 rfl).cells ho) 2 _ rfl) rfl ?_
            refine wl_guard rfl rfl rfl ?_
            refine wl_lss rfl rfl rfl ?_
            refine wl_pickF rfl rfl rfl rfl ?_
            refine wl_nil ?_
            refine qs_seq ?_
            refine wc_sub (L' := [(81, _), (11, _), (1, _), (5, _), (6, _), (9, _), (10, _), (12, _)]) (.cons rfl (.cons rfl (.cons rfl (.cons rfl (.cons rfl (.cons rfl (.cons rfl (.cons rfl .nil)))))))) ?_
            refine wc_condD rfl (fun h22 => ?_) (fun h22 => ?_)
            · skip
              refine wc_exit ?_
              refine qs_then_exit ?_
              refine qs_block_exit ?_
              refine qs_seq ?_
              refine wc_region ?_
              refine wl_move rfl rfl ?_
              refine wl_add rfl rfl (by first | omega | (simp; omega)) (by first | omega | (simp; omega)) rfl ?_
              refine wl_assign rfl rfl ?_
              refine wl_nil ?_
              exact qs_round (L1 := [(1, _), (5, _), (6, _), (9, _), (10, _), (11, _), (12, intV ((i + 1 : Nat) : Int))]) (.cons rfl (.cons rfl (.cons rfl (.cons rfl (.cons rfl (.cons rfl (.cons rfl .nil))))))) (k1 := ol.length - (i + 1)) (by omega) ⟨i + 1, pos, ctl, got, over, part, W, (max now o.now), rfl, rfl, hS9.pick [0, 1, 2] rfl, by omega, hT, hR, hB, hP.mono (by omega)⟩
            · skip
              refine wc_skip ?_
              refine qs_seq ?_
              refine wc_seq ?_
              refine wc_region ?_
              refine wl_move rfl rfl ?_
              refine wl_makeIface nif_24 rfl rfl ?_
              refine wl_move rfl rfl ?_
              have hC23 := hS9.split [1] [false, true, false] rfl; dsimp only [selF, pickA, nthA, List.cons_append, List.nil_append] at hC23
              refine wl_call cal_15 rfl (ready_sp hC23 (hG.starL 1 rfl) hB (max now o.now)) rfl ?_
              rintro e w23 ⟨_, rfl, rfl, hS23⟩; refine ⟨_, rfl, ?_⟩
              replace hS23 := hS23.join rfl; dsimp only [List.dropLast, List.cons_append, List.nil_append] at hS23; clear hC23
              clear hS9
              refine wl_assign rfl rfl ?_
              refine wl_nil ?_
              refine qs_seq ?_
              refine wc_sub (L' := [(14, _), (11, _), (1, _), (5, _), (6, _), (9, _), (10, _), (12, _)]) (.cons rfl (.cons rfl (.cons rfl (.cons rfl (.cons rfl (.cons rfl (.cons rfl (.cons rfl .nil)))))))) ?_
              refine wc_seq ?_
              refine wc_region ?_
              refine wl_move rfl rfl ?_
              refine wl_makeIface nif_24 rfl rfl ?_
              refine wl_move rfl rfl ?_
              refine wl_move rfl rfl ?_
              refine wl_move rfl rfl ?_
              refine wl_indexAddr i rfl rfl (by first | rfl | omega) (by omega) es_35 rfl ?_
              refine wl_fieldAddr rfl fo_41_2 rfl ?_
              refine wl_load rfl ag_3 (((hO.sat hS23 2 rfl).cells ho) 2 _ rfl) rfl ?_
              have hC24 := hS23.split [0] [true, false, false] rfl; dsimp only [selF, pickA, nthA, List.cons_append, List.nil_append] at hC24
              refine wl_call cal_16 rfl (readT_sp hC24 (hG.starL 1 rfl) hB (max now o.now) o.n) rfl ?_
              rintro e w24 ⟨_, rfl, rfl, hS24⟩; refine ⟨_, rfl, ?_⟩
              replace hS24 := hS24.join rfl; dsimp only [List.dropLast, List.cons_append, List.nil_append] at hS24; clear hC24
              clear hS23
              refine wl_move rfl rfl ?_
              refine wl_extract rfl rfl rfl ?_
              refine wl_extract rfl rfl rfl ?_
              refine wl_assign rfl rfl ?_
              refine wl_assign rfl rfl ?_
              refine wl_nil ?_
              refine qs_seq ?_
              refine wc_sub (L' := [(16, _), (15, _), (14, _), (11, _), (1, _), (5, _), (6, _), (9, _), (10, _), (12, _)]) (.cons rfl (.cons rfl (.cons rfl (.cons rfl (.cons rfl (.cons rfl (.cons rfl (.cons rfl (.cons rfl (.cons rfl .nil)))))))))) ?_
              refine wc_seq ?_
              refine wc_seq ?_
              have hn1 : 1 ≤ o.n := by omega
              have hT2 := hT.read (max now o.now) o.n
              rw [hT.ready, hT.readV, ready_read hn1]
              obtain ⟨ov2, hR2⟩ := read_TR hr hR (now := (max now o.now)) hn1
              have hti := read_times hr hR hn1 (hP.mono (show now ≤ (max now o.now) by omega))
              have hgl2 := hR2.got_le
              refine wc_region ?_
              refine wl_move rfl rfl ?_
              refine wl_move rfl rfl ?_
              refine wl_neq rfl rfl rfl ?_
              refine wl_neqB Tryd.underlying4 rfl rfl rfl ?_
              refine wl_move rfl rfl ?_
              refine wl_split 102 rfl (fun h25 => ?_) (fun h25 => ?_)
              · skip
                simp at h25
              · skip
                refine wl_guard rfl rfl h25 ?_
                refine wl_move rfl rfl ?_
                refine wl_guard rfl rfl h25 ?_
                refine wl_move rfl rfl ?_
                refine wl_guard rfl rfl h25 ?_
                refine wl_lenS Tryd.underlying9 rfl rfl ?_
                refine wl_guard rfl rfl h25 ?_
                refine wl_add rfl rfl (by first | omega | (simp; omega)) (by first | omega | (simp; omega)) rfl ?_
                refine wl_guard rfl rfl h25 ?_
                refine wl_move rfl rfl ?_
                refine wl_guard rfl rfl h25 ?_
                first | refine wl_lenL Tryd.underlying37 rfl rfl ?_ | refine wl_lenO 1 hS24 Tryd.underlying37 rfl rfl rfl ?_
                refine wl_guard rfl rfl h25 ?_
                refine wl_gtr rfl rfl rfl ?_
                refine wl_pickF rfl h25 rfl rfl ?_
                refine wl_nil ?_
                refine qs_seq ?_
                refine wc_sub (L' := [(110, _), (15, _), (11, _), (1, _), (5, _), (6, _), (9, _), (10, _), (12, _)]) (.cons rfl (.cons rfl (.cons rfl (.cons rfl (.cons rfl (.cons rfl (.cons rfl (.cons rfl (.cons rfl .nil))))))))) ?_
                refine wc_condD rfl (fun h26 => ?_) (fun h26 => ?_)
                · skip
                  exact absurd h26 (by omega)
                · skip
                  refine wc_skip ?_
                  refine qs_seq ?_
                  refine wc_seq ?_
                  refine wc_seq ?_
                  refine wc_region ?_
                  refine wl_move rfl rfl ?_
                  refine wl_assign rfl rfl ?_
                  refine wl_nil ?_
                  refine qs_seq ?_
                  refine wc_block ?_
                  refine wc_loop (fun K0 E0 W0 => ∃ (m : Nat), K0 = got + (readX l pos part (max now o.now) o.n).1.1.length - m ∧ E0 = [(1, .slice (some ⟨b, off, none⟩) ol.length cap), (5, .bool true), (6, ptrV p 0), (9, av), (10, intV (got : Int)), (11, intV (max now o.now)), (12, intV (i : Int)), (15, strV (readX l pos part (max now o.now) o.n).1.1), (17, intV (m : Int))] ∧ Sat W0 [rowT inC av (typA l), worldT p (readTW W (max now o.now) o.n), F] ∧ (got ≤ m) ∧ (m ≤ got + (readX l pos part (max now o.now) o.n).1.1.length)) (L0 := [(1, _), (5, _), (6, _), (9, _), (10, _), (11, _), (12, _), (15, _), (17, _)]) (got + (readX l pos part (max now o.now) o.n).1.1.length - got) (.cons rfl (.cons rfl (.cons rfl (.cons rfl (.cons rfl (.cons rfl (.cons rfl (.cons rfl (.cons rfl .nil))))))))) ⟨got, rfl, rfl, hS24.pick [1, 0, 2] rfl, by omega, by omega⟩ ?_
                  rintro _ _ w27 ⟨m, rfl, rfl, hS27, hm1, hm2⟩
                  refine wc_seq ?_
                  refine wc_seq ?_
                  refine wc_region ?_
                  refine wl_move rfl rfl ?_
                  refine wl_move rfl rfl ?_
                  refine wl_move rfl rfl ?_
                  refine wl_lenS Tryd.underlying9 rfl rfl ?_
                  refine wl_add rfl rfl (by first | omega | (simp; omega)) (by first | omega | (simp; omega)) rfl ?_
                  refine wl_lss rfl rfl rfl ?_
                  refine wl_nil ?_
                  refine qs_seq ?_
                  refine wc_sub (L' := [(117, _), (1, _), (5, _), (6, _), (9, _), (10, _), (11, _), (12, _), (15, _), (17, _)]) (.cons rfl (.cons rfl (.cons rfl (.cons rfl (.cons rfl (.cons rfl (.cons rfl (.cons rfl (.cons rfl (.cons rfl .nil)))))))))) ?_
                  refine wc_condD rfl (fun h28 => ?_) (fun h28 => ?_)
                  · skip
                    obtain ⟨t, hta, htn⟩ := hti.1 m hm1 (by omega)
                    refine wc_skip ?_
                    refine qs_seq ?_
                    refine wc_seq ?_
                    refine wc_block ?_
                    refine wc_seq ?_
                    refine wc_region ?_
                    refine wl_move rfl rfl ?_
                    refine wl_move rfl rfl ?_
                    refine wl_rowIdx inC 0 m hS27 rfl rfl rfl (by first | rfl | omega) hta es_37 rfl ?_
                    intro bx29 capx29 hvx29
                    refine wl_rowLoad 0 m 0 hS27 rfl hvx29 rfl rfl hta ag_3 rfl rfl ?_
                    refine wl_move rfl rfl ?_
                    refine wl_gtr rfl rfl rfl ?_
                    refine wl_nil ?_
                    refine qs_seq ?_
                    refine wc_sub (L' := [(125, _), (1, _), (5, _), (6, _), (9, _), (10, _), (11, _), (12, _), (15, _), (17, _)]) (.cons rfl (.cons rfl (.cons rfl (.cons rfl (.cons rfl (.cons rfl (.cons rfl (.cons rfl (.cons rfl (.cons rfl .nil)))))))))) ?_
                    refine wc_condD rfl (fun h30 => ?_) (fun h30 => ?_)
                    · skip
                      exact absurd h30 (by omega)
                    · skip
                      refine wc_skip ?_
                      refine qs_block_normal ?_
                      refine qs_seq ?_
                      refine wc_region ?_
                      refine wl_move rfl rfl ?_
                      refine wl_add rfl rfl (by first | omega | (simp; omega)) (by first | omega | (simp; omega)) rfl ?_
                      refine wl_assign rfl rfl ?_
                      refine wl_nil ?_
                      exact qs_round (L1 := [(1, _), (5, _), (6, _), (9, _), (10, _), (11, _), (12, _), (15, _), (17, intV ((m + 1 : Nat) : Int))]) (.cons rfl (.cons rfl (.cons rfl (.cons rfl (.cons rfl (.cons rfl (.cons rfl (.cons rfl (.cons rfl .nil))))))))) (k1 := got + (readX l pos part (max now o.now) o.n).1.1.length - (m + 1)) (by omega) ⟨m + 1, rfl, rfl, hS27.pick [0, 1, 2] rfl, by omega, by omega⟩
                  · skip
                    refine wc_exit ?_
                    refine qs_then_exit ?_
                    refine qs_then_exit ?_
                    refine qs_block_exit ?_
                    refine qs_seq ?_
                    refine wc_region ?_
                    refine wl_move rfl rfl ?_
                    refine wl_move rfl rfl ?_
                    refine wl_lenS Tryd.underlying9 rfl rfl ?_
                    refine wl_add rfl rfl (by first | omega | (simp; omega)) (by first | omega | (simp; omega)) rfl ?_
                    refine wl_assign rfl rfl ?_
                    refine wl_nil ?_
                    refine qs_block_normal ?_
                    refine qs_seq ?_
                    refine wc_sub (L' := [(10, _), (1, _), (5, _), (6, _), (9, _), (11, _), (12, _)]) (.cons rfl (.cons rfl (.cons rfl (.cons rfl (.cons rfl (.cons rfl (.cons rfl .nil))))))) ?_
                    refine wc_region ?_
                    refine wl_move rfl rfl ?_
                    refine wl_add rfl rfl (by first | omega | (simp; omega)) (by first | omega | (simp; omega)) rfl ?_
                    refine wl_assign rfl rfl ?_
                    refine wl_nil ?_
                    exact qs_round (L1 := [(1, _), (5, _), (6, _), (9, _), (10, _), (11, _), (12, intV ((i + 1 : Nat) : Int))]) (.cons rfl (.cons rfl (.cons rfl (.cons rfl (.cons rfl (.cons rfl (.cons rfl .nil))))))) (k1 := ol.length - (i + 1)) (by omega) ⟨i + 1, _, _, got + (readX l pos part (max now o.now) o.n).1.1.length, ov2, _, _, (max now o.now), rfl, rfl, hS27.pick [0, 1, 2] rfl, by omega, hT2, hR2, hB.read _ _, hti.2⟩
        · skip
          refine wc_exit ?_
          refine qs_then_exit ?_
          refine qs_then_exit ?_
          refine qs_block_exit ?_
          refine qs_seq ?_
          refine wc_seq ?_
          refine wc_region ?_
          refine wl_move rfl rfl ?_
          refine wl_assign rfl rfl ?_
          refine wl_nil ?_
          refine qs_seq ?_
          refine wc_ret ?_
          refine fin1 (.inr rfl) rfl rfl ?_
          exact ⟨_, rfl, by first | rfl | simp, hS9.pick [2] rfl⟩

end Go.Proofs.YtdkfppcafpjomaaDoor
