/- laws of tty: TtyReads -/
import Derived.Test.YtdkfppcafpjomaaDoorTf
namespace Go.Proofs.YtdkfppcafpjomaaDoor
open Go.RowKit M
set_option linter.unusedVariables false
theorem read_kinds {l : List ItemD} (hr : rightB l = true) {pos : Nat} {part : Bs} {got over : Nat} (h : TR l pos part got over) {now n : Int} (hn : 1 ≤ n) : (readX l pos part now n).1.2 = 0 ∨ (readX l pos part now n).1.2 = 1 ∨ (readX l pos part now n).1.2 = 2 := by
  rcases read_step hr h (now := now) hn with q | q | q
  · exact .inr (.inl q.1)
  · exact .inr (.inr q.1)
  · exact .inl q.1
theorem read_end {l : List ItemD} (hr : rightB l = true) {pos : Nat} {part : Bs} {got over : Nat} (h : TR l pos part got over) {now n : Int} (hn : 1 ≤ n) (hk : (readX l pos part now n).1.2 = 1) : (readX l pos part now n).1.1 = [] ∧ (typE 0 l)[over]? = some got ∧ TR l (readX l pos part now n).2.1 (readX l pos part now n).2.2 got (over + 1) := by
  rcases read_step hr h (now := now) hn with q | q | q
  · exact q.2
  · exact absurd q.1 (by omega)
  · exact absurd q.1 (by omega)
theorem read_empty {l : List ItemD} (hr : rightB l = true) {pos : Nat} {part : Bs} {got over : Nat} (h : TR l pos part got over) {now n : Int} (hn : 1 ≤ n) (hk : (readX l pos part now n).1.2 = 2) : (readX l pos part now n).1.1 = [] ∧ TR l (readX l pos part now n).2.1 (readX l pos part now n).2.2 got over ∧ ((typE 0 l)[over]? = some got ∨ got = (typS l).length ∨ ∃ t, (typA l)[got]? = some t ∧ now < t) := by
  rcases read_step hr h (now := now) hn with q | q | q
  · exact absurd q.1 (by omega)
  · exact q.2
  · exact absurd q.1 (by omega)
theorem read_data {l : List ItemD} (hr : rightB l = true) {pos : Nat} {part : Bs} {got over : Nat} (h : TR l pos part got over) {now n : Int} (hn : 1 ≤ n) (hk : (readX l pos part now n).1.2 = 0) : (typE 0 l)[over]? ≠ some got ∧ 1 ≤ (readX l pos part now n).1.1.length ∧ ((readX l pos part now n).1.1.length : Int) ≤ n ∧ got + (readX l pos part now n).1.1.length ≤ (typS l).length ∧ ((typS l).take (got + (readX l pos part now n).1.1.length)).drop got = (readX l pos part now n).1.1 ∧ TR l (readX l pos part now n).2.1 (readX l pos part now n).2.2 (got + (readX l pos part now n).1.1.length) over := by
  rcases read_step hr h (now := now) hn with q | q | q
  · exact absurd q.1 (by omega)
  · exact absurd q.1 (by omega)
  · exact q.2
theorem logs_fill (l : List ItemD) : ((fillW emptyW l).logs kOut).length = 0 := by
  unfold fillW; split <;> rfl
theorem fillE_right {l : List ItemD} (h : ¬ fillE l ≠ 0) : rightB l = true := by
  unfold fillE at h
  by_cases q : rightB l = true
  · exact q
  · rw [if_neg q] at h; exact absurd (by decide) h
set_option maxRecDepth 100000 in
set_option maxHeartbeats 4000000 in
theorem treads_law {w : World} {F : Th} (hS : Sat w [F]) (hG : Ent F WireG) {lv : Value} {l : List ItemD} (hL : Ent F (RdL itC lv l)) {ov : Value} {ol : List OpT} (hO : Ent F (OtRd ov ol)) :
    Calls Tryd.prog 5 #[lv, ov] w (Ret fun v w' => v = .bool true ∧ Sat w' [F]) := by
  obtain ⟨ao, cap, rfl, hmax⟩ := (hO.sat hS 0 rfl).shape
  refine calls_enter Tryd.func5 rfl Tryd.ntmps5 rfl ?_
  obtain ⟨ai, ci, rfl, hmi⟩ := (hL.sat hS 0 rfl).shape
  refine wc_seq ?_
  refine wc_region ?_
  refine wl_assign rfl rfl ?_
  refine wl_nil ?_
  refine qs_seq ?_
  refine wc_seq ?_
  refine wc_region ?_
  have hC1 := hS.split [] [false] rfl; dsimp only [selF, pickA, nthA, List.cons_append, List.nil_append] at hC1
  refine wl_call cal_7 rfl (tsmall_sp hC1 (hG.starL 0 rfl)) rfl ?_
  rintro e w1 ⟨_, rfl, rfl, hS1⟩; refine ⟨_, rfl, ?_⟩
  replace hS1 := hS1.join rfl; dsimp only [List.dropLast, List.cons_append, List.nil_append] at hS1; clear hC1
  refine wl_assign rfl rfl ?_
  refine wl_nil ?_
  refine qs_seq ?_
  refine wc_seq ?_
  refine wc_region ?_
  have hC2 := hS1.split [] [false] rfl; dsimp only [selF, pickA, nthA, List.cons_append, List.nil_append] at hC2
  refine wl_call cal_8 rfl (new_sp hC2) rfl ?_
  rintro e w2 ⟨_, rfl, p, rfl, hS2⟩; refine ⟨_, rfl, ?_⟩
  replace hS2 := hS2.join rfl; dsimp only [List.dropLast, List.cons_append, List.nil_append] at hS2; clear hC2
  clear hS1
  refine wl_assign rfl rfl ?_
  refine wl_nil ?_
  refine qs_seq ?_
  refine wc_seq ?_
  refine wc_seq ?_
  refine wc_region ?_
  refine wl_move rfl rfl ?_
  have hC3 := hS2.split [] [false, false] rfl; dsimp only [selF, pickA, nthA, List.cons_append, List.nil_append] at hC3
  refine wl_call cal_13 rfl (tfew_sp hC3 (hO.starL 1 rfl)) rfl ?_
  rintro e w3 ⟨_, rfl, rfl, hS3⟩; refine ⟨_, rfl, ?_⟩
  replace hS3 := hS3.join rfl; dsimp only [List.dropLast, List.cons_append, List.nil_append] at hS3; clear hC3
  clear hS2
  refine wl_not rfl rfl ?_
  refine wl_move rfl rfl ?_
  refine wl_split 23 rfl (fun h4 => ?_) (fun h4 => ?_)
  · skip
    refine wl_unwanted rfl rfl h4 rfl ?_
    refine wl_unwanted rfl rfl h4 rfl ?_
    refine wl_unwanted rfl rfl h4 rfl ?_
    refine wl_pickT rfl h4 rfl rfl ?_
    refine wl_move rfl rfl ?_
    refine wl_unwanted rfl rfl rfl rfl ?_
    refine wl_unwanted rfl rfl rfl rfl ?_
    refine wl_pickT rfl rfl rfl rfl ?_
    refine wl_nil ?_
    refine qs_seq ?_
    refine wc_sub (L' := [(31, _), (6, _), (5, _), (4, _), (0, _), (1, _)]) (.cons rfl (.cons rfl (.cons rfl (.cons rfl (.cons rfl (.cons rfl .nil)))))) ?_
    refine wc_condT rfl ?_
    refine wc_seq ?_
    refine wc_region ?_
    refine wl_move rfl rfl ?_
    refine wl_move rfl rfl ?_
    refine wl_guard rfl rfl rfl ?_
    refine wl_move rfl rfl ?_
    refine wl_guard rfl rfl rfl ?_
    refine wl_neqNil Tryd.underlying24 rfl rfl rfl ?_
    refine wl_pickT rfl rfl rfl rfl ?_
    refine wl_assign rfl rfl ?_
    refine wl_nil ?_
    refine qs_seq ?_
    refine wc_sub (L' := [(4, _), (6, _), (5, _), (0, _), (1, _)]) (.cons rfl (.cons rfl (.cons rfl (.cons rfl (.cons rfl .nil))))) ?_
    refine wc_ret ?_
    refine qs_then_ret ?_
    refine fin1 (.inr rfl) rfl rfl ?_
    exact ⟨_, rfl, by first | rfl | simp, hS3.pick [1] rfl⟩
  · skip
    refine wl_guard rfl rfl h4 ?_
    refine wl_move rfl rfl ?_
    refine wl_guard rfl rfl h4 ?_
    refine wl_lenL Tryd.underlying22 rfl rfl ?_
    refine wl_guard rfl rfl h4 ?_
    refine wl_gtr rfl rfl rfl ?_
    refine wl_pickF rfl h4 rfl rfl ?_
    refine wl_move rfl rfl ?_
    refine wl_splitD 28 rfl (fun h5 => ?_) (fun h5 => ?_)
    · skip
      refine wl_unwanted rfl rfl (decide_eq_true h5) rfl ?_
      refine wl_unwanted rfl rfl (decide_eq_true h5) rfl ?_
      refine wl_pickT rfl (decide_eq_true h5) rfl rfl ?_
      refine wl_nil ?_
      refine qs_seq ?_
      refine wc_sub (L' := [(31, _), (6, _), (5, _), (4, _), (0, _), (1, _)]) (.cons rfl (.cons rfl (.cons rfl (.cons rfl (.cons rfl (.cons rfl .nil)))))) ?_
      refine wc_condT rfl ?_
      refine wc_seq ?_
      refine wc_region ?_
      refine wl_move rfl rfl ?_
      refine wl_move rfl rfl ?_
      refine wl_guard rfl rfl rfl ?_
      refine wl_move rfl rfl ?_
      refine wl_guard rfl rfl rfl ?_
      refine wl_neqNil Tryd.underlying24 rfl rfl rfl ?_
      refine wl_pickT rfl rfl rfl rfl ?_
      refine wl_assign rfl rfl ?_
      refine wl_nil ?_
      refine qs_seq ?_
      refine wc_sub (L' := [(4, _), (6, _), (5, _), (0, _), (1, _)]) (.cons rfl (.cons rfl (.cons rfl (.cons rfl (.cons rfl .nil))))) ?_
      refine wc_ret ?_
      refine qs_then_ret ?_
      refine fin1 (.inr rfl) rfl rfl ?_
      exact ⟨_, rfl, by first | rfl | simp, hS3.pick [1] rfl⟩
    · skip
      refine wl_guard rfl rfl (decide_eq_false h5) ?_
      refine wl_move rfl rfl ?_
      refine wl_guard rfl rfl (decide_eq_false h5) ?_
      refine wl_eqlNil Tryd.underlying24 rfl rfl rfl ?_
      refine wl_pickF rfl (decide_eq_false h5) rfl rfl ?_
      refine wl_nil ?_
      refine qs_seq ?_
      refine wc_sub (L' := [(31, _), (6, _), (5, _), (4, _), (0, _), (1, _)]) (.cons rfl (.cons rfl (.cons rfl (.cons rfl (.cons rfl (.cons rfl .nil)))))) ?_
      refine wc_condF rfl ?_
      refine wc_skip ?_
      refine qs_seq ?_
      refine wc_seq ?_
      refine wc_seq ?_
      refine wc_region ?_
      refine wl_move rfl rfl ?_
      refine wl_makeIface nif_24 rfl rfl ?_
      refine wl_move rfl rfl ?_
      have hC6 := hS3.split [0] [true, false] rfl; dsimp only [selF, pickA, nthA, List.cons_append, List.nil_append] at hC6
      refine wl_call cal_9 rfl (fill_sp hC6 (hG.starL 0 rfl) (hL.starL 0 rfl) (by omega)) rfl ?_
      rintro e w6 ⟨_, rfl, rfl, hS6⟩; refine ⟨_, rfl, ?_⟩
      replace hS6 := hS6.join rfl; dsimp only [List.dropLast, List.cons_append, List.nil_append] at hS6; clear hC6
      clear hS3
      refine wl_neq rfl rfl rfl ?_
      refine wl_nil ?_
      refine qs_seq ?_
      refine wc_sub (L' := [(41, _), (6, _), (5, _), (4, _), (0, _), (1, _)]) (.cons rfl (.cons rfl (.cons rfl (.cons rfl (.cons rfl (.cons rfl .nil)))))) ?_
      refine wc_condD rfl (fun h7 => ?_) (fun h7 => ?_)
      · skip
        refine wc_seq ?_
        refine wc_region ?_
        refine wl_move rfl rfl ?_
        refine wl_assign rfl rfl ?_
        refine wl_nil ?_
        refine qs_seq ?_
        refine wc_ret ?_
        refine qs_then_ret ?_
        refine fin1 (.inr rfl) rfl rfl ?_
        exact ⟨_, rfl, by first | rfl | simp, hS6.pick [1] rfl⟩
      · skip
        have hfew : fewT ol = true := by simpa using (show (!fewT ol) = false by assumption)
        have hll := fewT_len hfew
        have hr : rightB l = true := fillE_right h7
        have hstl := typS_take hr l.length
        rw [List.take_length] at hstl
        have hrl := right_len hr
        refine wc_skip ?_
        refine qs_seq ?_
        refine wc_seq ?_
        refine wc_region ?_
        refine wl_move rfl rfl ?_
        have hC8 := hS6.split [] [false, false] rfl; dsimp only [selF, pickA, nthA, List.cons_append, List.nil_append] at hC8
        refine wl_call cal_14 rfl (typed_sp hC8 (hL.starL 1 rfl) hr) rfl ?_
        rintro e w8 ⟨_, rfl, ev, av, rfl, hS8⟩; refine ⟨_, rfl, ?_⟩
        replace hS8 := hS8.join rfl; dsimp only [List.dropLast, List.cons_append, List.nil_append] at hS8; clear hC8
        clear hS6
        refine wl_move rfl rfl ?_
        refine wl_extract rfl rfl rfl ?_
        refine wl_extract rfl rfl rfl ?_
        refine wl_extract rfl rfl rfl ?_
        refine wl_assign rfl rfl ?_
        refine wl_assign rfl rfl ?_
        refine wl_assign rfl rfl ?_
        refine wl_nil ?_
        refine qs_seq ?_
        refine wc_sub (L' := [(9, _), (8, _), (7, _), (6, _), (5, _), (4, _), (1, _)]) (.cons rfl (.cons rfl (.cons rfl (.cons rfl (.cons rfl (.cons rfl (.cons rfl .nil))))))) ?_
        refine wc_seq ?_
        refine wc_region ?_
        refine wl_assign rfl rfl ?_
        refine wl_nil ?_
        refine qs_seq ?_
        refine wc_seq ?_
        refine wc_region ?_
        refine wl_assign rfl rfl ?_
        refine wl_nil ?_
        refine qs_seq ?_
        refine wc_seq ?_
        refine wc_seq ?_
        refine wc_region ?_
        refine wl_assign rfl rfl ?_
        refine wl_nil ?_
        refine qs_seq ?_
        refine wc_block ?_
        refine wc_loop (fun K0 E0 W0 => ∃ (i : Nat) (pos : Nat) (ctl : Nat) (got : Nat) (over : Nat) (part : Bs) (W : WS), K0 = ol.length - i ∧ E0 = [(1, .slice ao ol.length cap), (5, .bool true), (6, ptrV p 0), (7, strV (typS l)), (8, ev), (9, av), (10, intV (got : Int)), (11, intV (over : Int)), (12, intV (i : Int))] ∧ Sat W0 [rowT inC ev (typEI l), rowT inC av (typA l), worldT p W, F] ∧ (i ≤ ol.length) ∧ (TI W l pos ctl part) ∧ (TR l pos part got over) ∧ (TB W) ∧ ((W.logs kOut).length ≤ 300 * i) ∧ (over ≤ i)) (L0 := [(1, _), (5, _), (6, _), (7, _), (8, _), (9, _), (10, _), (11, _), (12, _)]) (ol.length - 0) (.cons rfl (.cons rfl (.cons rfl (.cons rfl (.cons rfl (.cons rfl (.cons rfl (.cons rfl (.cons rfl .nil))))))))) ⟨0, 0, 0, 0, 0, [], _, rfl, rfl, hS8, by omega, TI.fill hr, TR.start l, TB.empty.fill l, by rw [logs_fill]; omega, by omega⟩ ?_
        rintro _ _ w9 ⟨i, pos, ctl, got, over, part, W, rfl, rfl, hS9, hi, hT, hR, hB, hlg, hov⟩
        have hgl := hR.got_le
        have hel := typEI_len l
        have hal := typA_len l
        refine wc_seq ?_
        refine wc_seq ?_
        refine wc_region ?_
        refine wl_move rfl rfl ?_
        refine wl_move rfl rfl ?_
        first | refine wl_lenL Tryd.underlying35 rfl rfl ?_ | refine wl_lenO 0 hS9 Tryd.underlying35 rfl rfl rfl ?_ | refine wl_lenO 1 hS9 Tryd.underlying35 rfl rfl rfl ?_
        refine wl_lss rfl rfl rfl ?_
        refine wl_nil ?_
        refine qs_seq ?_
        refine wc_sub (L' := [(52, _), (1, _), (5, _), (6, _), (7, _), (8, _), (9, _), (10, _), (11, _), (12, _)]) (.cons rfl (.cons rfl (.cons rfl (.cons rfl (.cons rfl (.cons rfl (.cons rfl (.cons rfl (.cons rfl (.cons rfl .nil)))))))))) ?_
        refine wc_condD rfl (fun h10 => ?_) (fun h10 => ?_)
        · skip
          obtain ⟨o, ho⟩ : ∃ o, ol[i]? = some o := ⟨_, List.getElem?_eq_getElem (by omega)⟩
          obtain ⟨⟨b, off, rfl, hc⟩, hil, hin⟩ := (hO.sat hS9 3 rfl).get ho
          have hLo : Ent F (RdL itC o.lv o.l) := fun g => (RdX.elem hO ho g).1
          have hos := fewT_get hfew ho
          have hoi : i < ol.length := (List.getElem?_eq_some_iff.1 ho).1
          refine wc_skip ?_
          refine qs_seq ?_
          refine wc_seq ?_
          refine wc_block ?_
          refine wc_seq ?_
          refine wc_region ?_
          refine wl_move rfl rfl ?_
          refine wl_move rfl rfl ?_
          refine wl_indexAddr i rfl rfl (by first | rfl | omega) (by omega) es_35 rfl ?_
          refine wl_fieldAddr rfl fo_41_0 rfl ?_
          refine wl_load rfl ag_3 (((hO.sat hS9 3 rfl).cells ho) 0 _ rfl) rfl ?_
          refine wl_mask 4 rfl rfl rfl rfl (q := 16) rfl rfl ?_
          refine wl_assign rfl rfl ?_
          refine wl_nil ?_
          refine qs_seq ?_
          refine wc_sub (L' := [(13, _), (1, _), (5, _), (6, _), (7, _), (8, _), (9, _), (10, _), (11, _), (12, _)]) (.cons rfl (.cons rfl (.cons rfl (.cons rfl (.cons rfl (.cons rfl (.cons rfl (.cons rfl (.cons rfl (.cons rfl .nil)))))))))) ?_
          refine wc_seq ?_
          refine wc_seq ?_
          refine wc_region ?_
          refine wl_move rfl rfl ?_
          refine wl_eql rfl rfl rfl ?_
          refine wl_move rfl rfl ?_
          refine wl_splitD 63 rfl (fun h11 => ?_) (fun h11 => ?_)
          · skip
            refine wl_unwanted rfl rfl (decide_eq_true h11) rfl ?_
            refine wl_unwanted rfl rfl (decide_eq_true h11) rfl ?_
            refine wl_pickT rfl (decide_eq_true h11) rfl rfl ?_
            refine wl_nil ?_
            refine qs_seq ?_
            refine wc_sub (L' := [(66, _), (13, _), (1, _), (5, _), (6, _), (7, _), (8, _), (9, _), (10, _), (11, _), (12, _)]) (.cons rfl (.cons rfl (.cons rfl (.cons rfl (.cons rfl (.cons rfl (.cons rfl (.cons rfl (.cons rfl (.cons rfl (.cons rfl .nil))))))))))) ?_
            refine wc_condT rfl ?_
            refine wc_exit ?_
            refine qs_then_exit ?_
            refine qs_block_exit ?_
            refine qs_seq ?_
            refine wc_region ?_
            refine wl_move rfl rfl ?_
            refine wl_add rfl rfl (by first | omega | (simp; omega)) (by first | omega | (simp; omega)) rfl ?_
            refine wl_assign rfl rfl ?_
            refine wl_nil ?_
            exact qs_round (L1 := [(1, _), (5, _), (6, _), (7, _), (8, _), (9, _), (10, _), (11, _), (12, intV ((i + 1 : Nat) : Int))]) (.cons rfl (.cons rfl (.cons rfl (.cons rfl (.cons rfl (.cons rfl (.cons rfl (.cons rfl (.cons rfl .nil))))))))) (k1 := ol.length - (i + 1)) (by omega) ⟨i + 1, _, _, got, over, _, _, rfl, rfl, hS9.pick [0, 1, 2, 3] rfl, by omega, hT, hR, hB, by omega, by omega⟩
          · skip
            refine wl_guard rfl rfl (decide_eq_false h11) ?_
            refine wl_move rfl rfl ?_
            refine wl_guard rfl rfl (decide_eq_false h11) ?_
            refine wl_eql rfl rfl rfl ?_
            refine wl_pickF rfl (decide_eq_false h11) rfl rfl ?_
            refine wl_nil ?_
            refine qs_seq ?_
            refine wc_sub (L' := [(66, _), (13, _), (1, _), (5, _), (6, _), (7, _), (8, _), (9, _), (10, _), (11, _), (12, _)]) (.cons rfl (.cons rfl (.cons rfl (.cons rfl (.cons rfl (.cons rfl (.cons rfl (.cons rfl (.cons rfl (.cons rfl (.cons rfl .nil))))))))))) ?_
            refine wc_condD rfl (fun h12 => ?_) (fun h12 => ?_)
            · skip
              refine wc_exit ?_
              refine qs_then_exit ?_
              refine qs_block_exit ?_
              refine qs_seq ?_
              refine wc_region ?_
              refine wl_move rfl rfl ?_
              refine wl_add rfl rfl (by first | omega | (simp; omega)) (by first | omega | (simp; omega)) rfl ?_
              refine wl_assign rfl rfl ?_
              refine wl_nil ?_
              exact qs_round (L1 := [(1, _), (5, _), (6, _), (7, _), (8, _), (9, _), (10, _), (11, _), (12, intV ((i + 1 : Nat) : Int))]) (.cons rfl (.cons rfl (.cons rfl (.cons rfl (.cons rfl (.cons rfl (.cons rfl (.cons rfl (.cons rfl .nil))))))))) (k1 := ol.length - (i + 1)) (by omega) ⟨i + 1, _, _, got, over, _, _, rfl, rfl, hS9.pick [0, 1, 2, 3] rfl, by omega, hT, hR, hB, by omega, by omega⟩
            · skip
              refine wc_skip ?_
              refine qs_seq ?_
              refine wc_seq ?_
              refine wc_region ?_
              refine wl_move rfl rfl ?_
              refine wl_move rfl rfl ?_
              refine wl_move rfl rfl ?_
              refine wl_indexAddr i rfl rfl (by first | rfl | omega) (by omega) es_35 rfl ?_
              refine wl_loadAt rfl ag_41 sz_41 (vs := otV o) ((hO.sat hS9 3 rfl).cells ho) rfl ?_
              have hC13 := hS9.split [2] [false, false, true, false] rfl; dsimp only [selF, pickA, nthA, List.cons_append, List.nil_append] at hC13
              refine wl_call cal_17 rfl (tdo_sp hC13 (hG.starL 2 rfl) hB o hos.1 (by omega) hin (by omega) (hLo.starL 2 rfl)) rfl ?_
              rintro e w13 ⟨_, rfl, rfl, hS13⟩; refine ⟨_, rfl, ?_⟩
              replace hS13 := hS13.join rfl; dsimp only [List.dropLast, List.cons_append, List.nil_append] at hS13; clear hC13
              clear hS9
              refine wl_move rfl rfl ?_
              refine wl_extract rfl rfl rfl ?_
              refine wl_extract rfl rfl rfl ?_
              refine wl_extract rfl rfl rfl ?_
              refine wl_assign rfl rfl ?_
              refine wl_assign rfl rfl ?_
              refine wl_assign rfl rfl ?_
              refine wl_nil ?_
              refine qs_seq ?_
              refine wc_sub (L' := [(15, _), (14, _), (13, _), (1, _), (5, _), (6, _), (7, _), (8, _), (9, _), (10, _), (11, _), (12, _)]) (.cons rfl (.cons rfl (.cons rfl (.cons rfl (.cons rfl (.cons rfl (.cons rfl (.cons rfl (.cons rfl (.cons rfl (.cons rfl (.cons rfl .nil)))))))))))) ?_
              refine wc_seq ?_
              refine wc_seq ?_
              refine wc_region ?_
              refine wl_move rfl rfl ?_
              refine wl_geq rfl rfl rfl ?_
              refine wl_move rfl rfl ?_
              refine wl_splitD 79 rfl (fun h14 => ?_) (fun h14 => ?_)
              · skip
                refine wl_guard rfl rfl (decide_eq_true h14) ?_
                refine wl_move rfl rfl ?_
                refine wl_guard rfl rfl (decide_eq_true h14) ?_
                refine wl_leq rfl rfl rfl ?_
                refine wl_pickT rfl (decide_eq_true h14) rfl rfl ?_
                refine wl_nil ?_
                refine qs_seq ?_
                refine wc_sub (L' := [(82, _), (15, _), (14, _), (1, _), (5, _), (6, _), (7, _), (8, _), (9, _), (10, _), (11, _), (12, _)]) (.cons rfl (.cons rfl (.cons rfl (.cons rfl (.cons rfl (.cons rfl (.cons rfl (.cons rfl (.cons rfl (.cons rfl (.cons rfl (.cons rfl .nil)))))))))))) ?_
                refine wc_condD rfl (fun h15 => ?_) (fun h15 => ?_)
                · skip
                  obtain ⟨ctl2, hq⟩ := hT.quiet (o := o) (by omega) (by omega)
                  refine wc_exit ?_
                  refine qs_then_exit ?_
                  refine qs_block_exit ?_
                  refine qs_seq ?_
                  refine wc_sub (L' := [(1, _), (5, _), (6, _), (7, _), (8, _), (9, _), (10, _), (11, _), (12, _)]) (.cons rfl (.cons rfl (.cons rfl (.cons rfl (.cons rfl (.cons rfl (.cons rfl (.cons rfl (.cons rfl .nil))))))))) ?_
                  refine wc_region ?_
                  refine wl_move rfl rfl ?_
                  refine wl_add rfl rfl (by first | omega | (simp; omega)) (by first | omega | (simp; omega)) rfl ?_
                  refine wl_assign rfl rfl ?_
                  refine wl_nil ?_
                  exact qs_round (L1 := [(1, _), (5, _), (6, _), (7, _), (8, _), (9, _), (10, _), (11, _), (12, intV ((i + 1 : Nat) : Int))]) (.cons rfl (.cons rfl (.cons rfl (.cons rfl (.cons rfl (.cons rfl (.cons rfl (.cons rfl (.cons rfl .nil))))))))) (k1 := ol.length - (i + 1)) (by omega) ⟨i + 1, _, _, got, over, _, _, rfl, rfl, hS13.pick [1, 2, 0, 3] rfl, by omega, hq, hR, hB.doW hos.1 hin, by have := logs_do W o; omega, by omega⟩
                · skip
                  refine wc_skip ?_
                  refine qs_seq ?_
                  refine wc_mid (fun E0 W0 => ∃ (nx : Bool), E0 = [(1, .slice (some ⟨b, off, none⟩) ol.length cap), (5, .bool true), (6, ptrV p 0), (7, strV (typS l)), (8, ev), (9, av), (10, intV (got : Int)), (11, intV (over : Int)), (12, intV (i : Int)), (14, strV (readX l pos part o.now o.n).1.1), (15, intV (readX l pos part o.now o.n).1.2), (17, .bool nx)] ∧ Sat W0 [rowT inC ev (typEI l), rowT inC av (typA l), worldT p (doW W o), F] ∧ (nx = true ↔ (typE 0 l)[over]? = some got) ∧ (TI (doW W o) l (readX l pos part o.now o.n).2.1 ctl (readX l pos part o.now o.n).2.2)) ?_ ?_
                  · skip
                    have hrd : isRd o := by unfold isRd; omega
                    obtain ⟨hT2, hV2⟩ := hT.rd hrd
                    rw [hV2]
                    refine wc_region ?_
                    refine wl_move rfl rfl ?_
                    refine wl_move rfl rfl ?_
                    first | refine wl_lenL Tryd.underlying37 rfl rfl ?_ | refine wl_lenO 1 hS13 Tryd.underlying37 rfl rfl rfl ?_ | refine wl_lenO 2 hS13 Tryd.underlying37 rfl rfl rfl ?_
                    refine wl_lss rfl rfl rfl ?_
                    refine wl_move rfl rfl ?_
                    refine wl_splitD 87 rfl (fun h17 => ?_) (fun h17 => ?_)
                    · skip
                      obtain ⟨e, he⟩ : ∃ e, (typEI l)[over]? = some e := ⟨_, List.getElem?_eq_getElem (by omega)⟩
                      refine wl_guard rfl rfl (decide_eq_true h17) ?_
                      refine wl_move rfl rfl ?_
                      refine wl_guard rfl rfl (decide_eq_true h17) ?_
                      refine wl_move rfl rfl ?_
                      refine wl_guard rfl rfl (decide_eq_true h17) ?_
                      refine wl_move rfl rfl ?_
                      refine wl_guard rfl rfl (decide_eq_true h17) ?_
                      first | refine wl_lenL Tryd.underlying37 rfl rfl ?_ | refine wl_lenO 1 hS13 Tryd.underlying37 rfl rfl rfl ?_ | refine wl_lenO 2 hS13 Tryd.underlying37 rfl rfl rfl ?_
                      refine wl_guard rfl rfl (decide_eq_true h17) ?_
                      refine wl_sub' rfl rfl (by first | omega | (simp; omega)) (by first | omega | (simp; omega)) rfl ?_
                      refine wl_guard rfl rfl (decide_eq_true h17) ?_
                      refine wl_maxI rfl rfl rfl ?_
                      refine wl_guard rfl rfl (decide_eq_true h17) ?_
                      refine wl_minI rfl rfl rfl ?_
                      refine wl_guard rfl rfl (decide_eq_true h17) ?_
                      refine wl_rowIdx inC 1 over hS13 rfl rfl rfl (by first | rfl | omega) he es_37 rfl ?_
                      intro bx18 capx18 hvx18
                      refine wl_guard rfl rfl (decide_eq_true h17) ?_
                      refine wl_rowLoad 1 over 0 hS13 rfl hvx18 rfl rfl he ag_3 rfl rfl ?_
                      refine wl_guard rfl rfl (decide_eq_true h17) ?_
                      refine wl_move rfl rfl ?_
                      refine wl_guard rfl rfl (decide_eq_true h17) ?_
                      refine wl_eql rfl rfl rfl ?_
                      refine wl_pickT rfl (decide_eq_true h17) rfl rfl ?_
                      refine wl_assign rfl rfl ?_
                      refine wl_nil ?_
                      exact qs_mid (.cons rfl (.cons rfl (.cons rfl (.cons rfl (.cons rfl (.cons rfl (.cons rfl (.cons rfl (.cons rfl (.cons rfl (.cons rfl (.cons rfl .nil)))))))))))) ⟨decide (e = (got : Int)), rfl, hS13.pick [1, 2, 0, 3] rfl, by rw [← typEI_at, he]; simp, hT2⟩
                    · skip
                      refine wl_unwanted rfl rfl (decide_eq_false h17) rfl ?_
                      refine wl_unwanted rfl rfl (decide_eq_false h17) rfl ?_
                      refine wl_unwanted rfl rfl (decide_eq_false h17) rfl ?_
                      refine wl_unwanted rfl rfl (decide_eq_false h17) rfl ?_
                      refine wl_unwanted rfl rfl (decide_eq_false h17) rfl ?_
                      refine wl_unwanted rfl rfl (decide_eq_false h17) rfl ?_
                      refine wl_unwanted rfl rfl (decide_eq_false h17) rfl ?_
                      refine wl_unwanted rfl rfl (decide_eq_false h17) rfl ?_
                      refine wl_unwanted rfl rfl (decide_eq_false h17) rfl ?_
                      refine wl_unwanted rfl rfl (decide_eq_false h17) rfl ?_
                      refine wl_unwanted rfl rfl (decide_eq_false h17) rfl ?_
                      refine wl_pickF rfl (decide_eq_false h17) rfl rfl ?_
                      refine wl_assign rfl rfl ?_
                      refine wl_nil ?_
                      exact qs_mid (.cons rfl (.cons rfl (.cons rfl (.cons rfl (.cons rfl (.cons rfl (.cons rfl (.cons rfl (.cons rfl (.cons rfl (.cons rfl (.cons rfl .nil)))))))))))) ⟨false, rfl, hS13.pick [1, 2, 0, 3] rfl, by rw [← typEI_at, List.getElem?_eq_none (by omega)]; simp, hT2⟩
                  rintro _ w16 ⟨nx, rfl, hS16, hnx, hT2⟩
                  refine wc_seq ?_
                  refine wc_seq ?_
                  refine wc_region ?_
                  refine wl_move rfl rfl ?_
                  refine wl_move rfl rfl ?_
                  refine wl_indexAddr i rfl rfl (by first | rfl | omega) (by omega) es_35 rfl ?_
                  refine wl_fieldAddr rfl fo_41_2 rfl ?_
                  refine wl_load rfl ag_3 (((hO.sat hS16 3 rfl).cells ho) 2 _ rfl) rfl ?_
                  refine wl_lss rfl rfl rfl ?_
                  refine wl_nil ?_
                  refine qs_seq ?_
                  refine wc_sub (L' := [(105, _), (1, _), (5, _), (6, _), (7, _), (8, _), (9, _), (10, _), (11, _), (12, _), (14, _), (15, _), (17, _)]) (.cons rfl (.cons rfl (.cons rfl (.cons rfl (.cons rfl (.cons rfl (.cons rfl (.cons rfl (.cons rfl (.cons rfl (.cons rfl (.cons rfl (.cons rfl .nil))))))))))))) ?_
                  refine wc_condD rfl (fun h19 => ?_) (fun h19 => ?_)
                  · skip
                    have hrn := read_none (l := l) (pos := pos) (part := part) (now := o.now) h19
                    rw [hrn] at hT2 ⊢
                    dsimp only at hT2 ⊢
                    refine wc_seq ?_
                    refine wc_seq ?_
                    refine wc_region ?_
                    refine wl_move rfl rfl ?_
                    refine wl_neqS rfl rfl rfl ?_
                    refine wl_move rfl rfl ?_
                    refine wl_splitD 108 rfl (fun h20 => ?_) (fun h20 => ?_)
                    · skip
                      exact absurd rfl h20
                    · skip
                      refine wl_guard rfl rfl (decide_eq_false h20) ?_
                      refine wl_move rfl rfl ?_
                      refine wl_guard rfl rfl (decide_eq_false h20) ?_
                      refine wl_neq rfl rfl rfl ?_
                      refine wl_pickF rfl (decide_eq_false h20) rfl rfl ?_
                      refine wl_nil ?_
                      refine qs_seq ?_
                      refine wc_sub (L' := [(111, _), (1, _), (5, _), (6, _), (7, _), (8, _), (9, _), (10, _), (11, _), (12, _), (14, _), (15, _), (17, _)]) (.cons rfl (.cons rfl (.cons rfl (.cons rfl (.cons rfl (.cons rfl (.cons rfl (.cons rfl (.cons rfl (.cons rfl (.cons rfl (.cons rfl (.cons rfl .nil))))))))))))) ?_
                      refine wc_condD rfl (fun h21 => ?_) (fun h21 => ?_)
                      · skip
                        exact absurd rfl h21
                      · skip
                        refine wc_skip ?_
                        refine qs_seq ?_
                        refine wc_exit ?_
                        refine qs_then_exit ?_
                        refine qs_block_exit ?_
                        refine qs_seq ?_
                        refine wc_sub (L' := [(1, _), (5, _), (6, _), (7, _), (8, _), (9, _), (10, _), (11, _), (12, _)]) (.cons rfl (.cons rfl (.cons rfl (.cons rfl (.cons rfl (.cons rfl (.cons rfl (.cons rfl (.cons rfl .nil))))))))) ?_
                        refine wc_region ?_
                        refine wl_move rfl rfl ?_
                        refine wl_add rfl rfl (by first | omega | (simp; omega)) (by first | omega | (simp; omega)) rfl ?_
                        refine wl_assign rfl rfl ?_
                        refine wl_nil ?_
                        exact qs_round (L1 := [(1, _), (5, _), (6, _), (7, _), (8, _), (9, _), (10, _), (11, _), (12, intV ((i + 1 : Nat) : Int))]) (.cons rfl (.cons rfl (.cons rfl (.cons rfl (.cons rfl (.cons rfl (.cons rfl (.cons rfl (.cons rfl .nil))))))))) (k1 := ol.length - (i + 1)) (by omega) ⟨i + 1, _, _, got, over, _, _, rfl, rfl, hS16.pick [0, 1, 2, 3] rfl, by omega, hT2, hR, hB.doW hos.1 hin, by have := logs_do W o; omega, by omega⟩
                  · skip
                    have hn1 : 1 ≤ o.n := by omega
                    have hkk := read_kinds hr hR (now := o.now) hn1
                    refine wc_skip ?_
                    refine qs_seq ?_
                    refine wc_seq ?_
                    refine wc_region ?_
                    refine wl_move rfl rfl ?_
                    refine wl_nil ?_
                    refine qs_seq ?_
                    refine wc_block ?_
                    refine wc_seq ?_
                    refine wc_region ?_
                    refine wl_eql rfl rfl rfl ?_
                    refine wl_assign rfl rfl ?_
                    refine wl_nil ?_
                    refine qs_seq ?_
                    refine wc_sub (L' := [(113, _), (112, _), (1, _), (5, _), (6, _), (7, _), (8, _), (9, _), (10, _), (11, _), (12, _), (14, _), (17, _)]) (.cons rfl (.cons rfl (.cons rfl (.cons rfl (.cons rfl (.cons rfl (.cons rfl (.cons rfl (.cons rfl (.cons rfl (.cons rfl (.cons rfl (.cons rfl .nil))))))))))))) ?_
                    refine wc_condD rfl (fun h22 => ?_) (fun h22 => ?_)
                    · skip
                      obtain ⟨hs0, he0, hR2⟩ := read_end hr hR hn1 h22
                      refine wc_seq ?_
                      refine wc_seq ?_
                      refine wc_region ?_
                      refine wl_move rfl rfl ?_
                      refine wl_not rfl rfl ?_
                      refine wl_move rfl rfl ?_
                      refine wl_split 117 rfl (fun h23 => ?_) (fun h23 => ?_)
                      · skip
                        have := hnx.2 he0; simp [this] at h23
                      · skip
                        refine wl_guard rfl rfl h23 ?_
                        refine wl_move rfl rfl ?_
                        refine wl_guard rfl rfl h23 ?_
                        refine wl_neqS rfl rfl rfl ?_
                        refine wl_pickF rfl h23 rfl rfl ?_
                        refine wl_nil ?_
                        refine qs_seq ?_
                        refine wc_sub (L' := [(120, _), (1, _), (5, _), (6, _), (7, _), (8, _), (9, _), (10, _), (11, _), (12, _)]) (.cons rfl (.cons rfl (.cons rfl (.cons rfl (.cons rfl (.cons rfl (.cons rfl (.cons rfl (.cons rfl (.cons rfl .nil)))))))))) ?_
                        refine wc_condD rfl (fun h24 => ?_) (fun h24 => ?_)
                        · skip
                          exact absurd hs0 h24
                        · skip
                          refine wc_skip ?_
                          refine qs_seq ?_
                          refine wc_region ?_
                          refine wl_move rfl rfl ?_
                          refine wl_add rfl rfl (by first | omega | (simp; omega)) (by first | omega | (simp; omega)) rfl ?_
                          refine wl_assign rfl rfl ?_
                          refine wl_nil ?_
                          refine qs_block_normal ?_
                          refine qs_block_normal ?_
                          refine qs_seq ?_
                          refine wc_sub (L' := [(11, _), (1, _), (5, _), (6, _), (7, _), (8, _), (9, _), (10, _), (12, _)]) (.cons rfl (.cons rfl (.cons rfl (.cons rfl (.cons rfl (.cons rfl (.cons rfl (.cons rfl (.cons rfl .nil))))))))) ?_
                          refine wc_region ?_
                          refine wl_move rfl rfl ?_
                          refine wl_add rfl rfl (by first | omega | (simp; omega)) (by first | omega | (simp; omega)) rfl ?_
                          refine wl_assign rfl rfl ?_
                          refine wl_nil ?_
                          exact qs_round (L1 := [(1, _), (5, _), (6, _), (7, _), (8, _), (9, _), (10, _), (11, _), (12, intV ((i + 1 : Nat) : Int))]) (.cons rfl (.cons rfl (.cons rfl (.cons rfl (.cons rfl (.cons rfl (.cons rfl (.cons rfl (.cons rfl .nil))))))))) (k1 := ol.length - (i + 1)) (by omega) ⟨i + 1, _, _, got, over + 1, _, _, rfl, rfl, hS16.pick [0, 1, 2, 3] rfl, by omega, hT2, hR2, hB.doW hos.1 hin, by have := logs_do W o; omega, by omega⟩
                    · skip
                      refine wc_seq ?_
                      refine wc_region ?_
                      refine wl_eql rfl rfl rfl ?_
                      refine wl_assign rfl rfl ?_
                      refine wl_nil ?_
                      refine qs_seq ?_
                      refine wc_condD rfl (fun h25 => ?_) (fun h25 => ?_)
                      · skip
                        obtain ⟨hs0, hR2, hwhy⟩ := read_empty hr hR hn1 h25
                        refine wc_seq ?_
                        have hS26 := hS16.drew
                        refine wc_draw [0, 1, 2, 3, 4, 5, 6, 7, 8, 9, 10, 11, 12, 13, 14, 15, 16, 17, 18, 19, 20, 21, 22, 23, 24, 25, 26, 27] [] mix (by kernel_rfl) ?_
                        refine vc_p rfl rfl rfl (fun _ => (ev_move rfl)) ?_
                        refine vc_p rfl rfl rfl (fun _ => (ev_neqS rfl rfl)) ?_
                        refine vc_p rfl rfl rfl (fun _ => (ev_move rfl)) ?_
                        refine vc_splitD 127 rfl (fun h27 => ?_) (fun h27 => ?_)
                        · skip
                          exact absurd hs0 h27
                        · skip
                          refine vc_p rfl rfl (guard_yes rfl rfl (decide_eq_false h27)) (fun _ => (Ev.gd (ev_move rfl))) ?_
                          refine vc_p rfl rfl (guard_yes rfl rfl (decide_eq_false h27)) (fun _ => (Ev.gd (ev_not rfl))) ?_
                          refine vc_p rfl rfl (guard_yes rfl rfl (decide_eq_false h27)) (fun _ => (Ev.gd (ev_move rfl))) ?_
                          refine vc_split 130 rfl (fun h28 => ?_) (fun h28 => ?_)
                          · skip
                            refine vc_p rfl rfl (guard_yes rfl rfl h28) (fun _ => (Ev.gd (ev_move rfl))) ?_
                            refine vc_p rfl rfl (guard_yes rfl rfl h28) (fun _ => (Ev.gd (ev_move rfl))) ?_
                            refine vc_p rfl rfl (guard_yes rfl rfl h28) (fun _ => (Ev.gd (ev_lenS Tryd.underlying9 rfl))) ?_
                            refine vc_p rfl rfl (guard_yes rfl rfl h28) (fun _ => (Ev.gd (ev_lss rfl rfl))) ?_
                            refine vc_p rfl rfl (guard_yes rfl rfl (decide_eq_false h27)) (fun _ => (Ev.gd (ev_pickT rfl h28 rfl))) ?_
                            refine vc_p rfl rfl (guard_yes rfl rfl (decide_eq_false h27)) (fun _ => (Ev.gd (ev_move rfl))) ?_
                            refine vc_splitD 136 rfl (fun h29 => ?_) (fun h29 => ?_)
                            · skip
                              obtain ⟨rb, rcap, rfl, _⟩ := hS26.own_at 1 rfl (by omega)
                              obtain ⟨tt, htt⟩ : ∃ tt, (typA l)[got]? = some tt := ⟨_, List.getElem?_eq_getElem (by omega)⟩
                              have hnow : ¬ tt ≤ o.now := by rcases hwhy with q | q | ⟨t, q1, q2⟩; exact absurd (hnx.2 q) (by simp_all); omega; (rw [htt] at q1; cases q1; omega)
                              refine vc_p rfl rfl (guard_yes rfl rfl (decide_eq_true h29)) (fun _ => (Ev.gd (ev_move rfl))) ?_
                              refine vc_p rfl rfl (guard_yes rfl rfl (decide_eq_true h29)) (fun _ => (Ev.gd (ev_move rfl))) ?_
                              refine vc_p rfl rfl (guard_yes rfl rfl (decide_eq_true h29)) (fun _ => (Ev.gd (ev_move rfl))) ?_
                              refine vc_p rfl rfl (guard_yes rfl rfl (decide_eq_true h29)) (fun _ => (Ev.gd (ev_lenL Tryd.underlying37 rfl))) ?_
                              refine vc_p rfl rfl (guard_yes rfl rfl (decide_eq_true h29)) (fun _ => (Ev.gd (ev_sub' rfl rfl (by first | omega | (simp; omega)) (by first | omega | (simp; omega))))) ?_
                              refine vc_p rfl rfl (guard_yes rfl rfl (decide_eq_true h29)) (fun _ => (Ev.gd (ev_minI rfl rfl))) ?_
                              refine vc_p rfl rfl (guard_yes rfl rfl (decide_eq_true h29)) (fun _ => (Ev.gd (ev_indexAddr got rfl rfl (by first | rfl | omega) (by first | omega | exact (List.getElem?_eq_some_iff.1 htt).1) es_37))) ?_
                              refine vc_q rfl rfl (guard_yes rfl rfl (decide_eq_true h29)) (Ev.gd (ev_rowLoad0 inC 1 got 0 hS26 rfl htt ag_3 rfl rfl)) ?_
                              refine vc_p rfl rfl (guard_yes rfl rfl (decide_eq_true h29)) (fun _ => (Ev.gd (ev_move rfl))) ?_
                              refine vc_p rfl rfl (guard_yes rfl rfl (decide_eq_true h29)) (fun _ => (Ev.gd (ev_move rfl))) ?_
                              refine vc_p rfl rfl (guard_yes rfl rfl (decide_eq_true h29)) (fun _ => (Ev.gd (ev_indexAddr i rfl rfl (by first | rfl | omega) (by omega) es_35))) ?_
                              refine vc_p rfl rfl (guard_yes rfl rfl (decide_eq_true h29)) (fun _ => (Ev.gd (ev_fieldAddr rfl fo_41_1))) ?_
                              refine vc_q rfl rfl (guard_yes rfl rfl (decide_eq_true h29)) (Ev.gd (ev_load rfl ag_3 (((hO.sat hS26 3 rfl).cells ho) 1 _ rfl))) ?_
                              refine vc_p rfl rfl (guard_yes rfl rfl (decide_eq_true h29)) (fun _ => (Ev.gd (ev_leq rfl rfl))) ?_
                              refine vc_p rfl rfl (guard_yes rfl rfl (decide_eq_false h27)) (fun _ => (Ev.gd (ev_pickT rfl (decide_eq_true h29) rfl))) ?_
                              refine vc_p rfl rfl rfl (fun _ => (ev_pickF rfl (decide_eq_false h27) rfl)) ?_
                              refine VC.nil ?_
                              refine qs_seq ?_
                              refine wc_sub (L' := [(152, _), (1, _), (5, _), (6, _), (7, _), (8, _), (9, _), (10, _), (11, _), (12, _)]) (.cons rfl (.cons rfl (.cons rfl (.cons rfl (.cons rfl (.cons rfl (.cons rfl (.cons rfl (.cons rfl (.cons rfl .nil)))))))))) ?_
                              refine wc_condD rfl (fun h30 => ?_) (fun h30 => ?_)
                              · skip
                                exact absurd h30 hnow
                              · skip
                                refine wc_skip ?_
                                refine qs_block_normal ?_
                                refine qs_block_normal ?_
                                refine qs_seq ?_
                                refine wc_region ?_
                                refine wl_move rfl rfl ?_
                                refine wl_add rfl rfl (by first | omega | (simp; omega)) (by first | omega | (simp; omega)) rfl ?_
                                refine wl_assign rfl rfl ?_
                                refine wl_nil ?_
                                exact qs_round (L1 := [(1, _), (5, _), (6, _), (7, _), (8, _), (9, _), (10, _), (11, _), (12, intV ((i + 1 : Nat) : Int))]) (.cons rfl (.cons rfl (.cons rfl (.cons rfl (.cons rfl (.cons rfl (.cons rfl (.cons rfl (.cons rfl .nil))))))))) (k1 := ol.length - (i + 1)) (by omega) ⟨i + 1, _, _, got, over, _, _, rfl, rfl, hS26.pick [0, 1, 2, 3] rfl, by omega, hT2, hR2, hB.doW hos.1 hin, by have := logs_do W o; omega, by omega⟩
                            · skip
                              refine vc_not rfl rfl (guard_no rfl rfl (decide_eq_false h29)) ?_
                              refine vc_not rfl rfl (guard_no rfl rfl (decide_eq_false h29)) ?_
                              refine vc_not rfl rfl (guard_no rfl rfl (decide_eq_false h29)) ?_
                              refine vc_not rfl rfl (guard_no rfl rfl (decide_eq_false h29)) ?_
                              refine vc_not rfl rfl (guard_no rfl rfl (decide_eq_false h29)) ?_
                              refine vc_not rfl rfl (guard_no rfl rfl (decide_eq_false h29)) ?_
                              refine vc_not rfl rfl (guard_no rfl rfl (decide_eq_false h29)) ?_
                              refine vc_not rfl rfl (guard_no rfl rfl (decide_eq_false h29)) ?_
                              refine vc_not rfl rfl (guard_no rfl rfl (decide_eq_false h29)) ?_
                              refine vc_not rfl rfl (guard_no rfl rfl (decide_eq_false h29)) ?_
                              refine vc_not rfl rfl (guard_no rfl rfl (decide_eq_false h29)) ?_
                              refine vc_not rfl rfl (guard_no rfl rfl (decide_eq_false h29)) ?_
                              refine vc_not rfl rfl (guard_no rfl rfl (decide_eq_false h29)) ?_
                              refine vc_not rfl rfl (guard_no rfl rfl (decide_eq_false h29)) ?_
                              refine vc_p rfl rfl (guard_yes rfl rfl (decide_eq_false h27)) (fun _ => (Ev.gd (ev_pickF rfl (decide_eq_false h29) rfl))) ?_
                              refine vc_p rfl rfl rfl (fun _ => (ev_pickF rfl (decide_eq_false h27) rfl)) ?_
                              refine VC.nil ?_
                              refine qs_seq ?_
                              refine wc_sub (L' := [(152, _), (1, _), (5, _), (6, _), (7, _), (8, _), (9, _), (10, _), (11, _), (12, _)]) (.cons rfl (.cons rfl (.cons rfl (.cons rfl (.cons rfl (.cons rfl (.cons rfl (.cons rfl (.cons rfl (.cons rfl .nil)))))))))) ?_
                              refine wc_condF rfl ?_
                              refine wc_skip ?_
                              refine qs_block_normal ?_
                              refine qs_block_normal ?_
                              refine qs_seq ?_
                              refine wc_region ?_
                              refine wl_move rfl rfl ?_
                              refine wl_add rfl rfl (by first | omega | (simp; omega)) (by first | omega | (simp; omega)) rfl ?_
                              refine wl_assign rfl rfl ?_
                              refine wl_nil ?_
                              exact qs_round (L1 := [(1, _), (5, _), (6, _), (7, _), (8, _), (9, _), (10, _), (11, _), (12, intV ((i + 1 : Nat) : Int))]) (.cons rfl (.cons rfl (.cons rfl (.cons rfl (.cons rfl (.cons rfl (.cons rfl (.cons rfl (.cons rfl .nil))))))))) (k1 := ol.length - (i + 1)) (by omega) ⟨i + 1, _, _, got, over, _, _, rfl, rfl, hS26.pick [0, 1, 2, 3] rfl, by omega, hT2, hR2, hB.doW hos.1 hin, by have := logs_do W o; omega, by omega⟩
                          · skip
                            refine vc_not rfl rfl (guard_no rfl rfl h28) ?_
                            refine vc_not rfl rfl (guard_no rfl rfl h28) ?_
                            refine vc_not rfl rfl (guard_no rfl rfl h28) ?_
                            refine vc_not rfl rfl (guard_no rfl rfl h28) ?_
                            refine vc_p rfl rfl (guard_yes rfl rfl (decide_eq_false h27)) (fun _ => (Ev.gd (ev_pickF rfl h28 rfl))) ?_
                            refine vc_p rfl rfl (guard_yes rfl rfl (decide_eq_false h27)) (fun _ => (Ev.gd (ev_move rfl))) ?_
                            refine vc_not rfl rfl (guard_no rfl rfl rfl) ?_
                            refine vc_not rfl rfl (guard_no rfl rfl rfl) ?_
                            refine vc_not rfl rfl (guard_no rfl rfl rfl) ?_
                            refine vc_not rfl rfl (guard_no rfl rfl rfl) ?_
                            refine vc_not rfl rfl (guard_no rfl rfl rfl) ?_
                            refine vc_not rfl rfl (guard_no rfl rfl rfl) ?_
                            refine vc_not rfl rfl (guard_no rfl rfl rfl) ?_
                            refine vc_not rfl rfl (guard_no rfl rfl rfl) ?_
                            refine vc_not rfl rfl (guard_no rfl rfl rfl) ?_
                            refine vc_not rfl rfl (guard_no rfl rfl rfl) ?_
                            refine vc_not rfl rfl (guard_no rfl rfl rfl) ?_
                            refine vc_not rfl rfl (guard_no rfl rfl rfl) ?_
                            refine vc_not rfl rfl (guard_no rfl rfl rfl) ?_
                            refine vc_not rfl rfl (guard_no rfl rfl rfl) ?_
                            refine vc_p rfl rfl (guard_yes rfl rfl (decide_eq_false h27)) (fun _ => (Ev.gd (ev_pickF rfl rfl rfl))) ?_
                            refine vc_p rfl rfl rfl (fun _ => (ev_pickF rfl (decide_eq_false h27) rfl)) ?_
                            refine VC.nil ?_
                            refine qs_seq ?_
                            refine wc_sub (L' := [(152, _), (1, _), (5, _), (6, _), (7, _), (8, _), (9, _), (10, _), (11, _), (12, _)]) (.cons rfl (.cons rfl (.cons rfl (.cons rfl (.cons rfl (.cons rfl (.cons rfl (.cons rfl (.cons rfl (.cons rfl .nil)))))))))) ?_
                            refine wc_condF rfl ?_
                            refine wc_skip ?_
                            refine qs_block_normal ?_
                            refine qs_block_normal ?_
                            refine qs_seq ?_
                            refine wc_region ?_
                            refine wl_move rfl rfl ?_
                            refine wl_add rfl rfl (by first | omega | (simp; omega)) (by first | omega | (simp; omega)) rfl ?_
                            refine wl_assign rfl rfl ?_
                            refine wl_nil ?_
                            exact qs_round (L1 := [(1, _), (5, _), (6, _), (7, _), (8, _), (9, _), (10, _), (11, _), (12, intV ((i + 1 : Nat) : Int))]) (.cons rfl (.cons rfl (.cons rfl (.cons rfl (.cons rfl (.cons rfl (.cons rfl (.cons rfl (.cons rfl .nil))))))))) (k1 := ol.length - (i + 1)) (by omega) ⟨i + 1, _, _, got, over, _, _, rfl, rfl, hS26.pick [0, 1, 2, 3] rfl, by omega, hT2, hR2, hB.doW hos.1 hin, by have := logs_do W o; omega, by omega⟩
                      · skip
                        refine wc_seq ?_
                        refine wc_region ?_
                        refine wl_eql rfl rfl rfl ?_
                        refine wl_assign rfl rfl ?_
                        refine wl_nil ?_
                        refine qs_seq ?_
                        refine wc_sub (L' := [(153, _), (1, _), (5, _), (6, _), (7, _), (8, _), (9, _), (10, _), (11, _), (12, _), (14, _), (17, _)]) (.cons rfl (.cons rfl (.cons rfl (.cons rfl (.cons rfl (.cons rfl (.cons rfl (.cons rfl (.cons rfl (.cons rfl (.cons rfl (.cons rfl .nil)))))))))))) ?_
                        refine wc_condD rfl (fun h31 => ?_) (fun h31 => ?_)
                        · skip
                          obtain ⟨hd1, hd2, hd3, hd4, hd5, hR2⟩ := read_data hr hR hn1 h31
                          refine wc_seq ?_
                          refine wc_seq ?_
                          refine wc_region ?_
                          refine wl_move rfl rfl ?_
                          refine wl_move rfl rfl ?_
                          refine wl_split 156 rfl (fun h32 => ?_) (fun h32 => ?_)
                          · skip
                            exact absurd (hnx.1 h32) hd1
                          · skip
                            refine wl_guard rfl rfl h32 ?_
                            refine wl_move rfl rfl ?_
                            refine wl_guard rfl rfl h32 ?_
                            refine wl_lenS Tryd.underlying9 rfl rfl ?_
                            refine wl_guard rfl rfl h32 ?_
                            refine wl_lss rfl rfl rfl ?_
                            refine wl_pickF rfl h32 rfl rfl ?_
                            refine wl_move rfl rfl ?_
                            refine wl_splitD 161 rfl (fun h33 => ?_) (fun h33 => ?_)
                            · skip
                              exact absurd h33 (by omega)
                            · skip
                              refine wl_guard rfl rfl (decide_eq_false h33) ?_
                              refine wl_move rfl rfl ?_
                              refine wl_guard rfl rfl (decide_eq_false h33) ?_
                              refine wl_lenS Tryd.underlying9 rfl rfl ?_
                              refine wl_guard rfl rfl (decide_eq_false h33) ?_
                              refine wl_move rfl rfl ?_
                              refine wl_guard rfl rfl (decide_eq_false h33) ?_
                              refine wl_move rfl rfl ?_
                              refine wl_guard rfl rfl (decide_eq_false h33) ?_
                              refine wl_indexAddr i rfl rfl (by first | rfl | omega) (by omega) es_35 rfl ?_
                              refine wl_guard rfl rfl (decide_eq_false h33) ?_
                              refine wl_fieldAddr rfl fo_41_2 rfl ?_
                              refine wl_guard rfl rfl (decide_eq_false h33) ?_
                              refine wl_load rfl ag_3 (((hO.sat hS16 3 rfl).cells ho) 2 _ rfl) rfl ?_
                              refine wl_guard rfl rfl (decide_eq_false h33) ?_
                              refine wl_gtr rfl rfl rfl ?_
                              refine wl_pickF rfl (decide_eq_false h33) rfl rfl ?_
                              refine wl_move rfl rfl ?_
                              refine wl_splitD 171 rfl (fun h34 => ?_) (fun h34 => ?_)
                              · skip
                                exact absurd h34 (by omega)
                              · skip
                                refine wl_guard rfl rfl (decide_eq_false h34) ?_
                                refine wl_move rfl rfl ?_
                                refine wl_guard rfl rfl (decide_eq_false h34) ?_
                                refine wl_move rfl rfl ?_
                                refine wl_guard rfl rfl (decide_eq_false h34) ?_
                                refine wl_lenS Tryd.underlying9 rfl rfl ?_
                                refine wl_guard rfl rfl (decide_eq_false h34) ?_
                                refine wl_add rfl rfl (by first | omega | (simp; omega)) (by first | omega | (simp; omega)) rfl ?_
                                refine wl_guard rfl rfl (decide_eq_false h34) ?_
                                refine wl_move rfl rfl ?_
                                refine wl_guard rfl rfl (decide_eq_false h34) ?_
                                refine wl_lenS Tryd.underlying9 rfl rfl ?_
                                refine wl_guard rfl rfl (decide_eq_false h34) ?_
                                refine wl_gtr rfl rfl rfl ?_
                                refine wl_pickF rfl (decide_eq_false h34) rfl rfl ?_
                                refine wl_nil ?_
                                refine qs_seq ?_
                                refine wc_sub (L' := [(179, _), (1, _), (5, _), (6, _), (7, _), (8, _), (9, _), (10, _), (11, _), (12, _), (14, _)]) (.cons rfl (.cons rfl (.cons rfl (.cons rfl (.cons rfl (.cons rfl (.cons rfl (.cons rfl (.cons rfl (.cons rfl (.cons rfl .nil))))))))))) ?_
                                refine wc_condD rfl (fun h35 => ?_) (fun h35 => ?_)
                                · skip
                                  exact absurd h35 (by omega)
                                · skip
                                  refine wc_skip ?_
                                  refine qs_seq ?_
                                  refine wc_seq ?_
                                  refine wc_seq ?_
                                  refine wc_region ?_
                                  refine wl_move rfl rfl ?_
                                  refine wl_move rfl rfl ?_
                                  refine wl_move rfl rfl ?_
                                  refine wl_move rfl rfl ?_
                                  refine wl_lenS Tryd.underlying9 rfl rfl ?_
                                  refine wl_add rfl rfl (by first | omega | (simp; omega)) (by first | omega | (simp; omega)) rfl ?_
                                  refine wl_sliceS got (got + (readX l pos part o.now o.n).1.1.length) Tryd.underlying9 rfl (bndS got _ rfl rfl) (bndS (got + (readX l pos part o.now o.n).1.1.length) _ rfl rfl) (by first | omega | (simp; omega)) (by first | omega | (simp; omega)) rfl ?_
                                  refine wl_move rfl rfl ?_
                                  refine wl_neqS rfl rfl rfl ?_
                                  refine wl_nil ?_
                                  refine qs_seq ?_
                                  refine wc_sub (L' := [(188, _), (1, _), (5, _), (6, _), (7, _), (8, _), (9, _), (10, _), (11, _), (12, _), (14, _)]) (.cons rfl (.cons rfl (.cons rfl (.cons rfl (.cons rfl (.cons rfl (.cons rfl (.cons rfl (.cons rfl (.cons rfl (.cons rfl .nil))))))))))) ?_
                                  refine wc_condD rfl (fun h36 => ?_) (fun h36 => ?_)
                                  · skip
                                    exact absurd hd5 h36
                                  · skip
                                    refine wc_skip ?_
                                    refine qs_seq ?_
                                    refine wc_region ?_
                                    refine wl_move rfl rfl ?_
                                    refine wl_move rfl rfl ?_
                                    refine wl_lenS Tryd.underlying9 rfl rfl ?_
                                    refine wl_add rfl rfl (by first | omega | (simp; omega)) (by first | omega | (simp; omega)) rfl ?_
                                    refine wl_assign rfl rfl ?_
                                    refine wl_nil ?_
                                    refine qs_block_normal ?_
                                    refine qs_block_normal ?_
                                    refine qs_seq ?_
                                    refine wc_sub (L' := [(10, _), (1, _), (5, _), (6, _), (7, _), (8, _), (9, _), (11, _), (12, _)]) (.cons rfl (.cons rfl (.cons rfl (.cons rfl (.cons rfl (.cons rfl (.cons rfl (.cons rfl (.cons rfl .nil))))))))) ?_
                                    refine wc_region ?_
                                    refine wl_move rfl rfl ?_
                                    refine wl_add rfl rfl (by first | omega | (simp; omega)) (by first | omega | (simp; omega)) rfl ?_
                                    refine wl_assign rfl rfl ?_
                                    refine wl_nil ?_
                                    exact qs_round (L1 := [(1, _), (5, _), (6, _), (7, _), (8, _), (9, _), (10, _), (11, _), (12, intV ((i + 1 : Nat) : Int))]) (.cons rfl (.cons rfl (.cons rfl (.cons rfl (.cons rfl (.cons rfl (.cons rfl (.cons rfl (.cons rfl .nil))))))))) (k1 := ol.length - (i + 1)) (by omega) ⟨i + 1, _, _, got + (readX l pos part o.now o.n).1.1.length, over, _, _, rfl, rfl, hS16.pick [0, 1, 2, 3] rfl, by omega, hT2, hR2, hB.doW hos.1 hin, by have := logs_do W o; omega, by omega⟩
                        · skip
                          exact absurd h31 (by omega)
              · skip
                refine wl_unwanted rfl rfl (decide_eq_false h14) rfl ?_
                refine wl_unwanted rfl rfl (decide_eq_false h14) rfl ?_
                refine wl_pickF rfl (decide_eq_false h14) rfl rfl ?_
                refine wl_nil ?_
                refine qs_seq ?_
                refine wc_sub (L' := [(82, _), (15, _), (14, _), (1, _), (5, _), (6, _), (7, _), (8, _), (9, _), (10, _), (11, _), (12, _)]) (.cons rfl (.cons rfl (.cons rfl (.cons rfl (.cons rfl (.cons rfl (.cons rfl (.cons rfl (.cons rfl (.cons rfl (.cons rfl (.cons rfl .nil)))))))))))) ?_
                refine wc_condF rfl ?_
                refine wc_skip ?_
                refine qs_seq ?_
                refine wc_mid (fun E0 W0 => ∃ (nx : Bool), E0 = [(1, .slice (some ⟨b, off, none⟩) ol.length cap), (5, .bool true), (6, ptrV p 0), (7, strV (typS l)), (8, ev), (9, av), (10, intV (got : Int)), (11, intV (over : Int)), (12, intV (i : Int)), (14, strV (readX l pos part o.now o.n).1.1), (15, intV (readX l pos part o.now o.n).1.2), (17, .bool nx)] ∧ Sat W0 [rowT inC ev (typEI l), rowT inC av (typA l), worldT p (doW W o), F] ∧ (nx = true ↔ (typE 0 l)[over]? = some got) ∧ (TI (doW W o) l (readX l pos part o.now o.n).2.1 ctl (readX l pos part o.now o.n).2.2)) ?_ ?_
                · skip
                  have hrd : isRd o := by unfold isRd; omega
                  obtain ⟨hT2, hV2⟩ := hT.rd hrd
                  rw [hV2]
                  refine wc_region ?_
                  refine wl_move rfl rfl ?_
                  refine wl_move rfl rfl ?_
                  first | refine wl_lenL Tryd.underlying37 rfl rfl ?_ | refine wl_lenO 1 hS13 Tryd.underlying37 rfl rfl rfl ?_ | refine wl_lenO 2 hS13 Tryd.underlying37 rfl rfl rfl ?_
                  refine wl_lss rfl rfl rfl ?_
                  refine wl_move rfl rfl ?_
                  refine wl_splitD 87 rfl (fun h38 => ?_) (fun h38 => ?_)
                  · skip
                    obtain ⟨e, he⟩ : ∃ e, (typEI l)[over]? = some e := ⟨_, List.getElem?_eq_getElem (by omega)⟩
                    refine wl_guard rfl rfl (decide_eq_true h38) ?_
                    refine wl_move rfl rfl ?_
                    refine wl_guard rfl rfl (decide_eq_true h38) ?_
                    refine wl_move rfl rfl ?_
                    refine wl_guard rfl rfl (decide_eq_true h38) ?_
                    refine wl_move rfl rfl ?_
                    refine wl_guard rfl rfl (decide_eq_true h38) ?_
                    first | refine wl_lenL Tryd.underlying37 rfl rfl ?_ | refine wl_lenO 1 hS13 Tryd.underlying37 rfl rfl rfl ?_ | refine wl_lenO 2 hS13 Tryd.underlying37 rfl rfl rfl ?_
                    refine wl_guard rfl rfl (decide_eq_true h38) ?_
                    refine wl_sub' rfl rfl (by first | omega | (simp; omega)) (by first | omega | (simp; omega)) rfl ?_
                    refine wl_guard rfl rfl (decide_eq_true h38) ?_
                    refine wl_maxI rfl rfl rfl ?_
                    refine wl_guard rfl rfl (decide_eq_true h38) ?_
                    refine wl_minI rfl rfl rfl ?_
                    refine wl_guard rfl rfl (decide_eq_true h38) ?_
                    refine wl_rowIdx inC 1 over hS13 rfl rfl rfl (by first | rfl | omega) he es_37 rfl ?_
                    intro bx39 capx39 hvx39
                    refine wl_guard rfl rfl (decide_eq_true h38) ?_
                    refine wl_rowLoad 1 over 0 hS13 rfl hvx39 rfl rfl he ag_3 rfl rfl ?_
                    refine wl_guard rfl rfl (decide_eq_true h38) ?_
                    refine wl_move rfl rfl ?_
                    refine wl_guard rfl rfl (decide_eq_true h38) ?_
                    refine wl_eql rfl rfl rfl ?_
                    refine wl_pickT rfl (decide_eq_true h38) rfl rfl ?_
                    refine wl_assign rfl rfl ?_
                    refine wl_nil ?_
                    exact qs_mid (.cons rfl (.cons rfl (.cons rfl (.cons rfl (.cons rfl (.cons rfl (.cons rfl (.cons rfl (.cons rfl (.cons rfl (.cons rfl (.cons rfl .nil)))))))))))) ⟨decide (e = (got : Int)), rfl, hS13.pick [1, 2, 0, 3] rfl, by rw [← typEI_at, he]; simp, hT2⟩
                  · skip
                    refine wl_unwanted rfl rfl (decide_eq_false h38) rfl ?_
                    refine wl_unwanted rfl rfl (decide_eq_false h38) rfl ?_
                    refine wl_unwanted rfl rfl (decide_eq_false h38) rfl ?_
                    refine wl_unwanted rfl rfl (decide_eq_false h38) rfl ?_
                    refine wl_unwanted rfl rfl (decide_eq_false h38) rfl ?_
                    refine wl_unwanted rfl rfl (decide_eq_false h38) rfl ?_
                    refine wl_unwanted rfl rfl (decide_eq_false h38) rfl ?_
                    refine wl_unwanted rfl rfl (decide_eq_false h38) rfl ?_
                    refine wl_unwanted rfl rfl (decide_eq_false h38) rfl ?_
                    refine wl_unwanted rfl rfl (decide_eq_false h38) rfl ?_
                    refine wl_unwanted rfl rfl (decide_eq_false h38) rfl ?_
                    refine wl_pickF rfl (decide_eq_false h38) rfl rfl ?_
                    refine wl_assign rfl rfl ?_
                    refine wl_nil ?_
                    exact qs_mid (.cons rfl (.cons rfl (.cons rfl (.cons rfl (.cons rfl (.cons rfl (.cons rfl (.cons rfl (.cons rfl (.cons rfl (.cons rfl (.cons rfl .nil)))))))))))) ⟨false, rfl, hS13.pick [1, 2, 0, 3] rfl, by rw [← typEI_at, List.getElem?_eq_none (by omega)]; simp, hT2⟩
                rintro _ w37 ⟨nx, rfl, hS37, hnx, hT2⟩
                refine wc_seq ?_
                refine wc_seq ?_
                refine wc_region ?_
                refine wl_move rfl rfl ?_
                refine wl_move rfl rfl ?_
                refine wl_indexAddr i rfl rfl (by first | rfl | omega) (by omega) es_35 rfl ?_
                refine wl_fieldAddr rfl fo_41_2 rfl ?_
                refine wl_load rfl ag_3 (((hO.sat hS37 3 rfl).cells ho) 2 _ rfl) rfl ?_
                refine wl_lss rfl rfl rfl ?_
                refine wl_nil ?_
                refine qs_seq ?_
                refine wc_sub (L' := [(105, _), (1, _), (5, _), (6, _), (7, _), (8, _), (9, _), (10, _), (11, _), (12, _), (14, _), (15, _), (17, _)]) (.cons rfl (.cons rfl (.cons rfl (.cons rfl (.cons rfl (.cons rfl (.cons rfl (.cons rfl (.cons rfl (.cons rfl (.cons rfl (.cons rfl (.cons rfl .nil))))))))))))) ?_
                refine wc_condD rfl (fun h40 => ?_) (fun h40 => ?_)
                · skip
                  have hrn := read_none (l := l) (pos := pos) (part := part) (now := o.now) h40
                  rw [hrn] at hT2 ⊢
                  dsimp only at hT2 ⊢
                  refine wc_seq ?_
                  refine wc_seq ?_
                  refine wc_region ?_
                  refine wl_move rfl rfl ?_
                  refine wl_neqS rfl rfl rfl ?_
                  refine wl_move rfl rfl ?_
                  refine wl_splitD 108 rfl (fun h41 => ?_) (fun h41 => ?_)
                  · skip
                    exact absurd rfl h41
                  · skip
                    refine wl_guard rfl rfl (decide_eq_false h41) ?_
                    refine wl_move rfl rfl ?_
                    refine wl_guard rfl rfl (decide_eq_false h41) ?_
                    refine wl_neq rfl rfl rfl ?_
                    refine wl_pickF rfl (decide_eq_false h41) rfl rfl ?_
                    refine wl_nil ?_
                    refine qs_seq ?_
                    refine wc_sub (L' := [(111, _), (1, _), (5, _), (6, _), (7, _), (8, _), (9, _), (10, _), (11, _), (12, _), (14, _), (15, _), (17, _)]) (.cons rfl (.cons rfl (.cons rfl (.cons rfl (.cons rfl (.cons rfl (.cons rfl (.cons rfl (.cons rfl (.cons rfl (.cons rfl (.cons rfl (.cons rfl .nil))))))))))))) ?_
                    refine wc_condD rfl (fun h42 => ?_) (fun h42 => ?_)
                    · skip
                      exact absurd rfl h42
                    · skip
                      refine wc_skip ?_
                      refine qs_seq ?_
                      refine wc_exit ?_
                      refine qs_then_exit ?_
                      refine qs_block_exit ?_
                      refine qs_seq ?_
                      refine wc_sub (L' := [(1, _), (5, _), (6, _), (7, _), (8, _), (9, _), (10, _), (11, _), (12, _)]) (.cons rfl (.cons rfl (.cons rfl (.cons rfl (.cons rfl (.cons rfl (.cons rfl (.cons rfl (.cons rfl .nil))))))))) ?_
                      refine wc_region ?_
                      refine wl_move rfl rfl ?_
                      refine wl_add rfl rfl (by first | omega | (simp; omega)) (by first | omega | (simp; omega)) rfl ?_
                      refine wl_assign rfl rfl ?_
                      refine wl_nil ?_
                      exact qs_round (L1 := [(1, _), (5, _), (6, _), (7, _), (8, _), (9, _), (10, _), (11, _), (12, intV ((i + 1 : Nat) : Int))]) (.cons rfl (.cons rfl (.cons rfl (.cons rfl (.cons rfl (.cons rfl (.cons rfl (.cons rfl (.cons rfl .nil))))))))) (k1 := ol.length - (i + 1)) (by omega) ⟨i + 1, _, _, got, over, _, _, rfl, rfl, hS37.pick [0, 1, 2, 3] rfl, by omega, hT2, hR, hB.doW hos.1 hin, by have := logs_do W o; omega, by omega⟩
                · skip
                  have hn1 : 1 ≤ o.n := by omega
                  have hkk := read_kinds hr hR (now := o.now) hn1
                  refine wc_skip ?_
                  refine qs_seq ?_
                  refine wc_seq ?_
                  refine wc_region ?_
                  refine wl_move rfl rfl ?_
                  refine wl_nil ?_
                  refine qs_seq ?_
                  refine wc_block ?_
                  refine wc_seq ?_
                  refine wc_region ?_
                  refine wl_eql rfl rfl rfl ?_
                  refine wl_assign rfl rfl ?_
                  refine wl_nil ?_
                  refine qs_seq ?_
                  refine wc_sub (L' := [(113, _), (112, _), (1, _), (5, _), (6, _), (7, _), (8, _), (9, _), (10, _), (11, _), (12, _), (14, _), (17, _)]) (.cons rfl (.cons rfl (.cons rfl (.cons rfl (.cons rfl (.cons rfl (.cons rfl (.cons rfl (.cons rfl (.cons rfl (.cons rfl (.cons rfl (.cons rfl .nil))))))))))))) ?_
                  refine wc_condD rfl (fun h43 => ?_) (fun h43 => ?_)
                  · skip
                    obtain ⟨hs0, he0, hR2⟩ := read_end hr hR hn1 h43
                    refine wc_seq ?_
                    refine wc_seq ?_
                    refine wc_region ?_
                    refine wl_move rfl rfl ?_
                    refine wl_not rfl rfl ?_
                    refine wl_move rfl rfl ?_
                    refine wl_split 117 rfl (fun h44 => ?_) (fun h44 => ?_)
                    · skip
                      have := hnx.2 he0; simp [this] at h44
                    · skip
                      refine wl_guard rfl rfl h44 ?_
                      refine wl_move rfl rfl ?_
                      refine wl_guard rfl rfl h44 ?_
                      refine wl_neqS rfl rfl rfl ?_
                      refine wl_pickF rfl h44 rfl rfl ?_
                      refine wl_nil ?_
                      refine qs_seq ?_
                      refine wc_sub (L' := [(120, _), (1, _), (5, _), (6, _), (7, _), (8, _), (9, _), (10, _), (11, _), (12, _)]) (.cons rfl (.cons rfl (.cons rfl (.cons rfl (.cons rfl (.cons rfl (.cons rfl (.cons rfl (.cons rfl (.cons rfl .nil)))))))))) ?_
                      refine wc_condD rfl (fun h45 => ?_) (fun h45 => ?_)
                      · skip
                        exact absurd hs0 h45
                      · skip
                        refine wc_skip ?_
                        refine qs_seq ?_
                        refine wc_region ?_
                        refine wl_move rfl rfl ?_
                        refine wl_add rfl rfl (by first | omega | (simp; omega)) (by first | omega | (simp; omega)) rfl ?_
                        refine wl_assign rfl rfl ?_
                        refine wl_nil ?_
                        refine qs_block_normal ?_
                        refine qs_block_normal ?_
                        refine qs_seq ?_
                        refine wc_sub (L' := [(11, _), (1, _), (5, _), (6, _), (7, _), (8, _), (9, _), (10, _), (12, _)]) (.cons rfl (.cons rfl (.cons rfl (.cons rfl (.cons rfl (.cons rfl (.cons rfl (.cons rfl (.cons rfl .nil))))))))) ?_
                        refine wc_region ?_
                        refine wl_move rfl rfl ?_
                        refine wl_add rfl rfl (by first | omega | (simp; omega)) (by first | omega | (simp; omega)) rfl ?_
                        refine wl_assign rfl rfl ?_
                        refine wl_nil ?_
                        exact qs_round (L1 := [(1, _), (5, _), (6, _), (7, _), (8, _), (9, _), (10, _), (11, _), (12, intV ((i + 1 : Nat) : Int))]) (.cons rfl (.cons rfl (.cons rfl (.cons rfl (.cons rfl (.cons rfl (.cons rfl (.cons rfl (.cons rfl .nil))))))))) (k1 := ol.length - (i + 1)) (by omega) ⟨i + 1, _, _, got, over + 1, _, _, rfl, rfl, hS37.pick [0, 1, 2, 3] rfl, by omega, hT2, hR2, hB.doW hos.1 hin, by have := logs_do W o; omega, by omega⟩
                  · skip
                    refine wc_seq ?_
                    refine wc_region ?_
                    refine wl_eql rfl rfl rfl ?_
                    refine wl_assign rfl rfl ?_
                    refine wl_nil ?_
                    refine qs_seq ?_
                    refine wc_condD rfl (fun h46 => ?_) (fun h46 => ?_)
                    · skip
                      obtain ⟨hs0, hR2, hwhy⟩ := read_empty hr hR hn1 h46
                      refine wc_seq ?_
                      have hS47 := hS37.drew
                      refine wc_draw [0, 1, 2, 3, 4, 5, 6, 7, 8, 9, 10, 11, 12, 13, 14, 15, 16, 17, 18, 19, 20, 21, 22, 23, 24, 25, 26, 27] [] mix (by kernel_rfl) ?_
                      refine vc_p rfl rfl rfl (fun _ => (ev_move rfl)) ?_
                      refine vc_p rfl rfl rfl (fun _ => (ev_neqS rfl rfl)) ?_
                      refine vc_p rfl rfl rfl (fun _ => (ev_move rfl)) ?_
                      refine vc_splitD 127 rfl (fun h48 => ?_) (fun h48 => ?_)
                      · skip
                        exact absurd hs0 h48
                      · skip
                        refine vc_p rfl rfl (guard_yes rfl rfl (decide_eq_false h48)) (fun _ => (Ev.gd (ev_move rfl))) ?_
                        refine vc_p rfl rfl (guard_yes rfl rfl (decide_eq_false h48)) (fun _ => (Ev.gd (ev_not rfl))) ?_
                        refine vc_p rfl rfl (guard_yes rfl rfl (decide_eq_false h48)) (fun _ => (Ev.gd (ev_move rfl))) ?_
                        refine vc_split 130 rfl (fun h49 => ?_) (fun h49 => ?_)
                        · skip
                          refine vc_p rfl rfl (guard_yes rfl rfl h49) (fun _ => (Ev.gd (ev_move rfl))) ?_
                          refine vc_p rfl rfl (guard_yes rfl rfl h49) (fun _ => (Ev.gd (ev_move rfl))) ?_
                          refine vc_p rfl rfl (guard_yes rfl rfl h49) (fun _ => (Ev.gd (ev_lenS Tryd.underlying9 rfl))) ?_
                          refine vc_p rfl rfl (guard_yes rfl rfl h49) (fun _ => (Ev.gd (ev_lss rfl rfl))) ?_
                          refine vc_p rfl rfl (guard_yes rfl rfl (decide_eq_false h48)) (fun _ => (Ev.gd (ev_pickT rfl h49 rfl))) ?_
                          refine vc_p rfl rfl (guard_yes rfl rfl (decide_eq_false h48)) (fun _ => (Ev.gd (ev_move rfl))) ?_
                          refine vc_splitD 136 rfl (fun h50 => ?_) (fun h50 => ?_)
                          · skip
                            obtain ⟨rb, rcap, rfl, _⟩ := hS47.own_at 1 rfl (by omega)
                            obtain ⟨tt, htt⟩ : ∃ tt, (typA l)[got]? = some tt := ⟨_, List.getElem?_eq_getElem (by omega)⟩
                            have hnow : ¬ tt ≤ o.now := by rcases hwhy with q | q | ⟨t, q1, q2⟩; exact absurd (hnx.2 q) (by simp_all); omega; (rw [htt] at q1; cases q1; omega)
                            refine vc_p rfl rfl (guard_yes rfl rfl (decide_eq_true h50)) (fun _ => (Ev.gd (ev_move rfl))) ?_
                            refine vc_p rfl rfl (guard_yes rfl rfl (decide_eq_true h50)) (fun _ => (Ev.gd (ev_move rfl))) ?_
                            refine vc_p rfl rfl (guard_yes rfl rfl (decide_eq_true h50)) (fun _ => (Ev.gd (ev_move rfl))) ?_
                            refine vc_p rfl rfl (guard_yes rfl rfl (decide_eq_true h50)) (fun _ => (Ev.gd (ev_lenL Tryd.underlying37 rfl))) ?_
                            refine vc_p rfl rfl (guard_yes rfl rfl (decide_eq_true h50)) (fun _ => (Ev.gd (ev_sub' rfl rfl (by first | omega | (simp; omega)) (by first | omega | (simp; omega))))) ?_
                            refine vc_p rfl rfl (guard_yes rfl rfl (decide_eq_true h50)) (fun _ => (Ev.gd (ev_minI rfl rfl))) ?_
                            refine vc_p rfl rfl (guard_yes rfl rfl (decide_eq_true h50)) (fun _ => (Ev.gd (ev_indexAddr got rfl rfl (by first | rfl | omega) (by first | omega | exact (List.getElem?_eq_some_iff.1 htt).1) es_37))) ?_
                            refine vc_q rfl rfl (guard_yes rfl rfl (decide_eq_true h50)) (Ev.gd (ev_rowLoad0 inC 1 got 0 hS47 rfl htt ag_3 rfl rfl)) ?_
                            refine vc_p rfl rfl (guard_yes rfl rfl (decide_eq_true h50)) (fun _ => (Ev.gd (ev_move rfl))) ?_
                            refine vc_p rfl rfl (guard_yes rfl rfl (decide_eq_true h50)) (fun _ => (Ev.gd (ev_move rfl))) ?_
                            refine vc_p rfl rfl (guard_yes rfl rfl (decide_eq_true h50)) (fun _ => (Ev.gd (ev_indexAddr i rfl rfl (by first | rfl | omega) (by omega) es_35))) ?_
                            refine vc_p rfl rfl (guard_yes rfl rfl (decide_eq_true h50)) (fun _ => (Ev.gd (ev_fieldAddr rfl fo_41_1))) ?_
                            refine vc_q rfl rfl (guard_yes rfl rfl (decide_eq_true h50)) (Ev.gd (ev_load rfl ag_3 (((hO.sat hS47 3 rfl).cells ho) 1 _ rfl))) ?_
                            refine vc_p rfl rfl (guard_yes rfl rfl (decide_eq_true h50)) (fun _ => (Ev.gd (ev_leq rfl rfl))) ?_
                            refine vc_p rfl rfl (guard_yes rfl rfl (decide_eq_false h48)) (fun _ => (Ev.gd (ev_pickT rfl (decide_eq_true h50) rfl))) ?_
                            refine vc_p rfl rfl rfl (fun _ => (ev_pickF rfl (decide_eq_false h48) rfl)) ?_
                            refine VC.nil ?_
                            refine qs_seq ?_
                            refine wc_sub (L' := [(152, _), (1, _), (5, _), (6, _), (7, _), (8, _), (9, _), (10, _), (11, _), (12, _)]) (.cons rfl (.cons rfl (.cons rfl (.cons rfl (.cons rfl (.cons rfl (.cons rfl (.cons rfl (.cons rfl (.cons rfl .nil)))))))))) ?_
                            refine wc_condD rfl (fun h51 => ?_) (fun h51 => ?_)
                            · skip
                              exact absurd h51 hnow
                            · skip
                              refine wc_skip ?_
                              refine qs_block_normal ?_
                              refine qs_block_normal ?_
                              refine qs_seq ?_
                              refine wc_region ?_
                              refine wl_move rfl rfl ?_
                              refine wl_add rfl rfl (by first | omega | (simp; omega)) (by first | omega | (simp; omega)) rfl ?_
                              refine wl_assign rfl rfl ?_
                              refine wl_nil ?_
                              exact qs_round (L1 := [(1, _), (5, _), (6, _), (7, _), (8, _), (9, _), (10, _), (11, _), (12, intV ((i + 1 : Nat) : Int))]) (.cons rfl (.cons rfl (.cons rfl (.cons rfl (.cons rfl (.cons rfl (.cons rfl (.cons rfl (.cons rfl .nil))))))))) (k1 := ol.length - (i + 1)) (by omega) ⟨i + 1, _, _, got, over, _, _, rfl, rfl, hS47.pick [0, 1, 2, 3] rfl, by omega, hT2, hR2, hB.doW hos.1 hin, by have := logs_do W o; omega, by omega⟩
                          · skip
                            refine vc_not rfl rfl (guard_no rfl rfl (decide_eq_false h50)) ?_
                            refine vc_not rfl rfl (guard_no rfl rfl (decide_eq_false h50)) ?_
                            refine vc_not rfl rfl (guard_no rfl rfl (decide_eq_false h50)) ?_
                            refine vc_not rfl rfl (guard_no rfl rfl (decide_eq_false h50)) ?_
                            refine vc_not rfl rfl (guard_no rfl rfl (decide_eq_false h50)) ?_
                            refine vc_not rfl rfl (guard_no rfl rfl (decide_eq_false h50)) ?_
                            refine vc_not rfl rfl (guard_no rfl rfl (decide_eq_false h50)) ?_
                            refine vc_not rfl rfl (guard_no rfl rfl (decide_eq_false h50)) ?_
                            refine vc_not rfl rfl (guard_no rfl rfl (decide_eq_false h50)) ?_
                            refine vc_not rfl rfl (guard_no rfl rfl (decide_eq_false h50)) ?_
                            refine vc_not rfl rfl (guard_no rfl rfl (decide_eq_false h50)) ?_
                            refine vc_not rfl rfl (guard_no rfl rfl (decide_eq_false h50)) ?_
                            refine vc_not rfl rfl (guard_no rfl rfl (decide_eq_false h50)) ?_
                            refine vc_not rfl rfl (guard_no rfl rfl (decide_eq_false h50)) ?_
                            refine vc_p rfl rfl (guard_yes rfl rfl (decide_eq_false h48)) (fun _ => (Ev.gd (ev_pickF rfl (decide_eq_false h50) rfl))) ?_
                            refine vc_p rfl rfl rfl (fun _ => (ev_pickF rfl (decide_eq_false h48) rfl)) ?_
                            refine VC.nil ?_
                            refine qs_seq ?_
                            refine wc_sub (L' := [(152, _), (1, _), (5, _), (6, _), (7, _), (8, _), (9, _), (10, _), (11, _), (12, _)]) (.cons rfl (.cons rfl (.cons rfl (.cons rfl (.cons rfl (.cons rfl (.cons rfl (.cons rfl (.cons rfl (.cons rfl .nil)))))))))) ?_
                            refine wc_condF rfl ?_
                            refine wc_skip ?_
                            refine qs_block_normal ?_
                            refine qs_block_normal ?_
                            refine qs_seq ?_
                            refine wc_region ?_
                            refine wl_move rfl rfl ?_
                            refine wl_add rfl rfl (by first | omega | (simp; omega)) (by first | omega | (simp; omega)) rfl ?_
                            refine wl_assign rfl rfl ?_
                            refine wl_nil ?_
                            exact qs_round (L1 := [(1, _), (5, _), (6, _), (7, _), (8, _), (9, _), (10, _), (11, _), (12, intV ((i + 1 : Nat) : Int))]) (.cons rfl (.cons rfl (.cons rfl (.cons rfl (.cons rfl (.cons rfl (.cons rfl (.cons rfl (.cons rfl .nil))))))))) (k1 := ol.length - (i + 1)) (by omega) ⟨i + 1, _, _, got, over, _, _, rfl, rfl, hS47.pick [0, 1, 2, 3] rfl, by omega, hT2, hR2, hB.doW hos.1 hin, by have := logs_do W o; omega, by omega⟩
                        · skip
                          refine vc_not rfl rfl (guard_no rfl rfl h49) ?_
                          refine vc_not rfl rfl (guard_no rfl rfl h49) ?_
                          refine vc_not rfl rfl (guard_no rfl rfl h49) ?_
                          refine vc_not rfl rfl (guard_no rfl rfl h49) ?_
                          refine vc_p rfl rfl (guard_yes rfl rfl (decide_eq_false h48)) (fun _ => (Ev.gd (ev_pickF rfl h49 rfl))) ?_
                          refine vc_p rfl rfl (guard_yes rfl rfl (decide_eq_false h48)) (fun _ => (Ev.gd (ev_move rfl))) ?_
                          refine vc_not rfl rfl (guard_no rfl rfl rfl) ?_
                          refine vc_not rfl rfl (guard_no rfl rfl rfl) ?_
                          refine vc_not rfl rfl (guard_no rfl rfl rfl) ?_
                          refine vc_not rfl rfl (guard_no rfl rfl rfl) ?_
                          refine vc_not rfl rfl (guard_no rfl rfl rfl) ?_
                          refine vc_not rfl rfl (guard_no rfl rfl rfl) ?_
                          refine vc_not rfl rfl (guard_no rfl rfl rfl) ?_
                          refine vc_not rfl rfl (guard_no rfl rfl rfl) ?_
                          refine vc_not rfl rfl (guard_no rfl rfl rfl) ?_
                          refine vc_not rfl rfl (guard_no rfl rfl rfl) ?_
                          refine vc_not rfl rfl (guard_no rfl rfl rfl) ?_
                          refine vc_not rfl rfl (guard_no rfl rfl rfl) ?_
                          refine vc_not rfl rfl (guard_no rfl rfl rfl) ?_
                          refine vc_not rfl rfl (guard_no rfl rfl rfl) ?_
                          refine vc_p rfl rfl (guard_yes rfl rfl (decide_eq_false h48)) (fun _ => (Ev.gd (ev_pickF rfl rfl rfl))) ?_
                          refine vc_p rfl rfl rfl (fun _ => (ev_pickF rfl (decide_eq_false h48) rfl)) ?_
                          refine VC.nil ?_
                          refine qs_seq ?_
                          refine wc_sub (L' := [(152, _), (1, _), (5, _), (6, _), (7, _), (8, _), (9, _), (10, _), (11, _), (12, _)]) (.cons rfl (.cons rfl (.cons rfl (.cons rfl (.cons rfl (.cons rfl (.cons rfl (.cons rfl (.cons rfl (.cons rfl .nil)))))))))) ?_
                          refine wc_condF rfl ?_
                          refine wc_skip ?_
                          refine qs_block_normal ?_
                          refine qs_block_normal ?_
                          refine qs_seq ?_
                          refine wc_region ?_
                          refine wl_move rfl rfl ?_
                          refine wl_add rfl rfl (by first | omega | (simp; omega)) (by first | omega | (simp; omega)) rfl ?_
                          refine wl_assign rfl rfl ?_
                          refine wl_nil ?_
                          exact qs_round (L1 := [(1, _), (5, _), (6, _), (7, _), (8, _), (9, _), (10, _), (11, _), (12, intV ((i + 1 : Nat) : Int))]) (.cons rfl (.cons rfl (.cons rfl (.cons rfl (.cons rfl (.cons rfl (.cons rfl (.cons rfl (.cons rfl .nil))))))))) (k1 := ol.length - (i + 1)) (by omega) ⟨i + 1, _, _, got, over, _, _, rfl, rfl, hS47.pick [0, 1, 2, 3] rfl, by omega, hT2, hR2, hB.doW hos.1 hin, by have := logs_do W o; omega, by omega⟩
                    · skip
                      refine wc_seq ?_
                      refine wc_region ?_
                      refine wl_eql rfl rfl rfl ?_
                      refine wl_assign rfl rfl ?_
                      refine wl_nil ?_
                      refine qs_seq ?_
                      refine wc_sub (L' := [(153, _), (1, _), (5, _), (6, _), (7, _), (8, _), (9, _), (10, _), (11, _), (12, _), (14, _), (17, _)]) (.cons rfl (.cons rfl (.cons rfl (.cons rfl (.cons rfl (.cons rfl (.cons rfl (.cons rfl (.cons rfl (.cons rfl (.cons rfl (.cons rfl .nil)))))))))))) ?_
                      refine wc_condD rfl (fun h52 => ?_) (fun h52 => ?_)
                      · skip
                        obtain ⟨hd1, hd2, hd3, hd4, hd5, hR2⟩ := read_data hr hR hn1 h52
                        refine wc_seq ?_
                        refine wc_seq ?_
                        refine wc_region ?_
                        refine wl_move rfl rfl ?_
                        refine wl_move rfl rfl ?_
                        refine wl_split 156 rfl (fun h53 => ?_) (fun h53 => ?_)
                        · skip
                          exact absurd (hnx.1 h53) hd1
                        · skip
                          refine wl_guard rfl rfl h53 ?_
                          refine wl_move rfl rfl ?_
                          refine wl_guard rfl rfl h53 ?_
                          refine wl_lenS Tryd.underlying9 rfl rfl ?_
                          refine wl_guard rfl rfl h53 ?_
                          refine wl_lss rfl rfl rfl ?_
                          refine wl_pickF rfl h53 rfl rfl ?_
                          refine wl_move rfl rfl ?_
                          refine wl_splitD 161 rfl (fun h54 => ?_) (fun h54 => ?_)
                          · skip
                            exact absurd h54 (by omega)
                          · skip
                            refine wl_guard rfl rfl (decide_eq_false h54) ?_
                            refine wl_move rfl rfl ?_
                            refine wl_guard rfl rfl (decide_eq_false h54) ?_
                            refine wl_lenS Tryd.underlying9 rfl rfl ?_
                            refine wl_guard rfl rfl (decide_eq_false h54) ?_
                            refine wl_move rfl rfl ?_
                            refine wl_guard rfl rfl (decide_eq_false h54) ?_
                            refine wl_move rfl rfl ?_
                            refine wl_guard rfl rfl (decide_eq_false h54) ?_
                            refine wl_indexAddr i rfl rfl (by first | rfl | omega) (by omega) es_35 rfl ?_
                            refine wl_guard rfl rfl (decide_eq_false h54) ?_
                            refine wl_fieldAddr rfl fo_41_2 rfl ?_
                            refine wl_guard rfl rfl (decide_eq_false h54) ?_
                            refine wl_load rfl ag_3 (((hO.sat hS37 3 rfl).cells ho) 2 _ rfl) rfl ?_
                            refine wl_guard rfl rfl (decide_eq_false h54) ?_
                            refine wl_gtr rfl rfl rfl ?_
                            refine wl_pickF rfl (decide_eq_false h54) rfl rfl ?_
                            refine wl_move rfl rfl ?_
                            refine wl_splitD 171 rfl (fun h55 => ?_) (fun h55 => ?_)
                            · skip
                              exact absurd h55 (by omega)
                            · skip
                              refine wl_guard rfl rfl (decide_eq_false h55) ?_
                              refine wl_move rfl rfl ?_
                              refine wl_guard rfl rfl (decide_eq_false h55) ?_
                              refine wl_move rfl rfl ?_
                              refine wl_guard rfl rfl (decide_eq_false h55) ?_
                              refine wl_lenS Tryd.underlying9 rfl rfl ?_
                              refine wl_guard rfl rfl (decide_eq_false h55) ?_
                              refine wl_add rfl rfl (by first | omega | (simp; omega)) (by first | omega | (simp; omega)) rfl ?_
                              refine wl_guard rfl rfl (decide_eq_false h55) ?_
                              refine wl_move rfl rfl ?_
                              refine wl_guard rfl rfl (decide_eq_false h55) ?_
                              refine wl_lenS Tryd.underlying9 rfl rfl ?_
                              refine wl_guard rfl rfl (decide_eq_false h55) ?_
                              refine wl_gtr rfl rfl rfl ?_
                              refine wl_pickF rfl (decide_eq_false h55) rfl rfl ?_
                              refine wl_nil ?_
                              refine qs_seq ?_
                              refine wc_sub (L' := [(179, _), (1, _), (5, _), (6, _), (7, _), (8, _), (9, _), (10, _), (11, _), (12, _), (14, _)]) (.cons rfl (.cons rfl (.cons rfl (.cons rfl (.cons rfl (.cons rfl (.cons rfl (.cons rfl (.cons rfl (.cons rfl (.cons rfl .nil))))))))))) ?_
                              refine wc_condD rfl (fun h56 => ?_) (fun h56 => ?_)
                              · skip
                                exact absurd h56 (by omega)
                              · skip
                                refine wc_skip ?_
                                refine qs_seq ?_
                                refine wc_seq ?_
                                refine wc_seq ?_
                                refine wc_region ?_
                                refine wl_move rfl rfl ?_
                                refine wl_move rfl rfl ?_
                                refine wl_move rfl rfl ?_
                                refine wl_move rfl rfl ?_
                                refine wl_lenS Tryd.underlying9 rfl rfl ?_
                                refine wl_add rfl rfl (by first | omega | (simp; omega)) (by first | omega | (simp; omega)) rfl ?_
                                refine wl_sliceS got (got + (readX l pos part o.now o.n).1.1.length) Tryd.underlying9 rfl (bndS got _ rfl rfl) (bndS (got + (readX l pos part o.now o.n).1.1.length) _ rfl rfl) (by first | omega | (simp; omega)) (by first | omega | (simp; omega)) rfl ?_
                                refine wl_move rfl rfl ?_
                                refine wl_neqS rfl rfl rfl ?_
                                refine wl_nil ?_
                                refine qs_seq ?_
                                refine wc_sub (L' := [(188, _), (1, _), (5, _), (6, _), (7, _), (8, _), (9, _), (10, _), (11, _), (12, _), (14, _)]) (.cons rfl (.cons rfl (.cons rfl (.cons rfl (.cons rfl (.cons rfl (.cons rfl (.cons rfl (.cons rfl (.cons rfl (.cons rfl .nil))))))))))) ?_
                                refine wc_condD rfl (fun h57 => ?_) (fun h57 => ?_)
                                · skip
                                  exact absurd hd5 h57
                                · skip
                                  refine wc_skip ?_
                                  refine qs_seq ?_
                                  refine wc_region ?_
                                  refine wl_move rfl rfl ?_
                                  refine wl_move rfl rfl ?_
                                  refine wl_lenS Tryd.underlying9 rfl rfl ?_
                                  refine wl_add rfl rfl (by first | omega | (simp; omega)) (by first | omega | (simp; omega)) rfl ?_
                                  refine wl_assign rfl rfl ?_
                                  refine wl_nil ?_
                                  refine qs_block_normal ?_
                                  refine qs_block_normal ?_
                                  refine qs_seq ?_
                                  refine wc_sub (L' := [(10, _), (1, _), (5, _), (6, _), (7, _), (8, _), (9, _), (11, _), (12, _)]) (.cons rfl (.cons rfl (.cons rfl (.cons rfl (.cons rfl (.cons rfl (.cons rfl (.cons rfl (.cons rfl .nil))))))))) ?_
                                  refine wc_region ?_
                                  refine wl_move rfl rfl ?_
                                  refine wl_add rfl rfl (by first | omega | (simp; omega)) (by first | omega | (simp; omega)) rfl ?_
                                  refine wl_assign rfl rfl ?_
                                  refine wl_nil ?_
                                  exact qs_round (L1 := [(1, _), (5, _), (6, _), (7, _), (8, _), (9, _), (10, _), (11, _), (12, intV ((i + 1 : Nat) : Int))]) (.cons rfl (.cons rfl (.cons rfl (.cons rfl (.cons rfl (.cons rfl (.cons rfl (.cons rfl (.cons rfl .nil))))))))) (k1 := ol.length - (i + 1)) (by omega) ⟨i + 1, _, _, got + (readX l pos part o.now o.n).1.1.length, over, _, _, rfl, rfl, hS37.pick [0, 1, 2, 3] rfl, by omega, hT2, hR2, hB.doW hos.1 hin, by have := logs_do W o; omega, by omega⟩
                      · skip
                        exact absurd h52 (by omega)
        · skip
          refine wc_exit ?_
          refine qs_then_exit ?_
          refine qs_then_exit ?_
          refine qs_block_exit ?_
          refine qs_seq ?_
          refine wc_seq ?_
          refine wc_region ?_
          refine wl_move rfl rfl ?_
          refine wl_assign rfl rfl ?_
          refine wl_nil ?_
          refine qs_seq ?_
          refine wc_sub (L' := [(4, _)]) (.cons rfl .nil) ?_
          refine wc_ret ?_
          refine fin1 (.inr rfl) rfl rfl ?_
          exact ⟨_, rfl, by first | rfl | simp, hS9.pick [3] rfl⟩

end Go.Proofs.YtdkfppcafpjomaaDoor
