/- laws of cell: CellStays -/
import Derived.Test.YtleaahajkncnpaaDoorCg
namespace Go.Proofs.YtleaahajkncnpaaDoor
open Go.RowKit M
set_option linter.unusedVariables false
set_option maxRecDepth 100000 in
set_option maxHeartbeats 1000000 in
theorem stays_law {w : World} {F : Th} (hS : Sat w [F]) (hG : Ent F (Glob 0)) {lv kv1 kv2 : Value} {l : List OpD} (s : Bytes) {k1 k2 : List Int} (hL : Ent F (OpsRd lv l)) (hK1 : Ent F (RdI kv1 k1)) (hK2 : Ent F (RdI kv2 k2)) :
    Calls Tryd.prog 4 #[lv, strV s, kv1, kv2] w (Ret fun v w' => v = .bool true ∧ Sat w' [F]) := by
  obtain ⟨ao, cap, rfl, hmax⟩ := (hL.sat hS 0 rfl).shape
  obtain ⟨ao1, cap1, rfl, hkm1⟩ := (hK1.sat hS 0 rfl).shape
  obtain ⟨ao2, cap2, rfl, hkm2⟩ := (hK2.sat hS 0 rfl).shape
  refine calls_enter Tryd.func4 rfl Tryd.ntmps4 rfl ?_
  refine wc_seq ?_
  refine wc_region ?_
  refine wl_assign rfl rfl ?_
  refine wl_nil ?_
  refine qs_seq ?_
  refine wc_seq ?_
  refine wc_region ?_
  have hC1 := hS.split [] [false] rfl; dsimp only [selF, pickA, nthA, List.cons_append, List.nil_append] at hC1
  refine wl_call cal_8 rfl (small_sp hC1 (hG.starL 0 rfl)) rfl ?_
  rintro e w1 ⟨_, rfl, rfl, hS1⟩; refine ⟨_, rfl, ?_⟩
  replace hS1 := hS1.join rfl; dsimp only [List.dropLast, List.cons_append, List.nil_append] at hS1; clear hC1
  refine wl_assign rfl rfl ?_
  refine wl_nil ?_
  refine qs_seq ?_
  refine wc_seq ?_
  refine wc_region ?_
  refine wl_move rfl rfl ?_
  have hC2 := hS1.split [] [false] rfl; dsimp only [selF, pickA, nthA, List.cons_append, List.nil_append] at hC2
  refine wl_call cal_17 rfl (few_sp hC2 (hL.starL 0 rfl)) rfl ?_
  rintro e w2 ⟨_, rfl, rfl, hS2⟩; refine ⟨_, rfl, ?_⟩
  replace hS2 := hS2.join rfl; dsimp only [List.dropLast, List.cons_append, List.nil_append] at hS2; clear hC2
  clear hS1
  refine wl_assign rfl rfl ?_
  refine wl_nil ?_
  refine qs_seq ?_
  refine wc_seq ?_
  refine wc_seq ?_
  refine wc_region ?_
  refine wl_move rfl rfl ?_
  refine wl_not rfl rfl ?_
  refine wl_move rfl rfl ?_
  refine wl_split 27 rfl (fun h3 => ?_) (fun h3 => ?_)
  · skip
    refine wl_unwanted rfl rfl h3 rfl ?_
    refine wl_unwanted rfl rfl h3 rfl ?_
    refine wl_unwanted rfl rfl h3 rfl ?_
    refine wl_pickT rfl h3 rfl rfl ?_
    refine wl_move rfl rfl ?_
    refine wl_unwanted rfl rfl rfl rfl ?_
    refine wl_unwanted rfl rfl rfl rfl ?_
    refine wl_unwanted rfl rfl rfl rfl ?_
    refine wl_pickT rfl rfl rfl rfl ?_
    refine wl_move rfl rfl ?_
    refine wl_unwanted rfl rfl rfl rfl ?_
    refine wl_unwanted rfl rfl rfl rfl ?_
    refine wl_unwanted rfl rfl rfl rfl ?_
    refine wl_pickT rfl rfl rfl rfl ?_
    refine wl_nil ?_
    refine qs_seq ?_
    refine wc_sub (L' := [(41, _), (9, _), (8, _), (0, _), (1, _), (2, _), (3, _)]) (.cons rfl (.cons rfl (.cons rfl (.cons rfl (.cons rfl (.cons rfl (.cons rfl .nil))))))) ?_
    refine wc_condT rfl ?_
    refine wc_seq ?_
    refine wc_region ?_
    refine wl_move rfl rfl ?_
    refine wl_assign rfl rfl ?_
    refine wl_nil ?_
    refine qs_seq ?_
    refine wc_ret ?_
    refine qs_then_ret ?_
    refine fin1 (.inr rfl) rfl rfl ?_
    exact ⟨_, rfl, rfl, hS2.pick [0] rfl⟩
  · skip
    have hfew : fewO l = true := by simpa using h3
    refine wl_guard rfl rfl h3 ?_
    refine wl_move rfl rfl ?_
    refine wl_guard rfl rfl h3 ?_
    refine wl_lenS Tryd.underlying9 rfl rfl ?_
    refine wl_guard rfl rfl h3 ?_
    refine wl_gtr rfl rfl rfl ?_
    refine wl_pickF rfl h3 rfl rfl ?_
    refine wl_move rfl rfl ?_
    refine wl_splitD 32 rfl (fun h4 => ?_) (fun h4 => ?_)
    · skip
      refine wl_unwanted rfl rfl (decide_eq_true h4) rfl ?_
      refine wl_unwanted rfl rfl (decide_eq_true h4) rfl ?_
      refine wl_unwanted rfl rfl (decide_eq_true h4) rfl ?_
      refine wl_pickT rfl (decide_eq_true h4) rfl rfl ?_
      refine wl_move rfl rfl ?_
      refine wl_unwanted rfl rfl rfl rfl ?_
      refine wl_unwanted rfl rfl rfl rfl ?_
      refine wl_unwanted rfl rfl rfl rfl ?_
      refine wl_pickT rfl rfl rfl rfl ?_
      refine wl_nil ?_
      refine qs_seq ?_
      refine wc_sub (L' := [(41, _), (9, _), (8, _), (0, _), (1, _), (2, _), (3, _)]) (.cons rfl (.cons rfl (.cons rfl (.cons rfl (.cons rfl (.cons rfl (.cons rfl .nil))))))) ?_
      refine wc_condT rfl ?_
      refine wc_seq ?_
      refine wc_region ?_
      refine wl_move rfl rfl ?_
      refine wl_assign rfl rfl ?_
      refine wl_nil ?_
      refine qs_seq ?_
      refine wc_ret ?_
      refine qs_then_ret ?_
      refine fin1 (.inr rfl) rfl rfl ?_
      exact ⟨_, rfl, rfl, hS2.pick [0] rfl⟩
    · skip
      refine wl_guard rfl rfl (decide_eq_false h4) ?_
      refine wl_move rfl rfl ?_
      refine wl_guard rfl rfl (decide_eq_false h4) ?_
      refine wl_lenL Tryd.underlying39 rfl rfl ?_
      refine wl_guard rfl rfl (decide_eq_false h4) ?_
      refine wl_gtr rfl rfl rfl ?_
      refine wl_pickF rfl (decide_eq_false h4) rfl rfl ?_
      refine wl_move rfl rfl ?_
      refine wl_splitD 37 rfl (fun h5 => ?_) (fun h5 => ?_)
      · skip
        refine wl_unwanted rfl rfl (decide_eq_true h5) rfl ?_
        refine wl_unwanted rfl rfl (decide_eq_true h5) rfl ?_
        refine wl_unwanted rfl rfl (decide_eq_true h5) rfl ?_
        refine wl_pickT rfl (decide_eq_true h5) rfl rfl ?_
        refine wl_nil ?_
        refine qs_seq ?_
        refine wc_sub (L' := [(41, _), (9, _), (8, _), (0, _), (1, _), (2, _), (3, _)]) (.cons rfl (.cons rfl (.cons rfl (.cons rfl (.cons rfl (.cons rfl (.cons rfl .nil))))))) ?_
        refine wc_condT rfl ?_
        refine wc_seq ?_
        refine wc_region ?_
        refine wl_move rfl rfl ?_
        refine wl_assign rfl rfl ?_
        refine wl_nil ?_
        refine qs_seq ?_
        refine wc_ret ?_
        refine qs_then_ret ?_
        refine fin1 (.inr rfl) rfl rfl ?_
        exact ⟨_, rfl, rfl, hS2.pick [0] rfl⟩
      · skip
        refine wl_guard rfl rfl (decide_eq_false h5) ?_
        refine wl_move rfl rfl ?_
        refine wl_guard rfl rfl (decide_eq_false h5) ?_
        refine wl_lenL Tryd.underlying39 rfl rfl ?_
        refine wl_guard rfl rfl (decide_eq_false h5) ?_
        refine wl_gtr rfl rfl rfl ?_
        refine wl_pickF rfl (decide_eq_false h5) rfl rfl ?_
        refine wl_nil ?_
        refine qs_seq ?_
        refine wc_sub (L' := [(41, _), (9, _), (8, _), (0, _), (1, _), (2, _), (3, _)]) (.cons rfl (.cons rfl (.cons rfl (.cons rfl (.cons rfl (.cons rfl (.cons rfl .nil))))))) ?_
        refine wc_condD rfl (fun h6 => ?_) (fun h6 => ?_)
        · skip
          refine wc_seq ?_
          refine wc_region ?_
          refine wl_move rfl rfl ?_
          refine wl_assign rfl rfl ?_
          refine wl_nil ?_
          refine qs_seq ?_
          refine wc_ret ?_
          refine qs_then_ret ?_
          refine fin1 (.inr rfl) rfl rfl ?_
          exact ⟨_, rfl, rfl, hS2.pick [0] rfl⟩
        · skip
          refine wc_skip ?_
          refine qs_seq ?_
          refine wc_seq ?_
          refine wc_region ?_
          have hC7 := hS2.split [] [false] rfl; dsimp only [selF, pickA, nthA, List.cons_append, List.nil_append] at hC7
          refine wl_call cal_9 rfl (new_sp hC7) rfl ?_
          rintro e w7 ⟨_, rfl, p, rfl, hS7⟩; refine ⟨_, rfl, ?_⟩
          replace hS7 := hS7.join rfl; dsimp only [List.dropLast, List.cons_append, List.nil_append] at hS7; clear hC7
          clear hS2
          replace hS7 := dT_new hS7
          refine wl_assign rfl rfl ?_
          refine wl_nil ?_
          obtain ⟨ho1, ho2, hg0, _⟩ := Good.begin (f := 3) (P := AnyP) (by omega) trivial
          refine qs_seq ?_
          refine wc_seq ?_
          refine wc_region ?_
          refine wl_move rfl rfl ?_
          have hC8 := hS7.split [0] [true, false] rfl; dsimp only [selF, pickA, nthA, List.cons_append, List.nil_append] at hC8
          refine wl_call cal_13 rfl (open0_sp hC8 (hG.starL 0 rfl) 3 ho1) rfl ?_
          rintro e w8 ⟨_, rfl, c, rfl, hS8⟩; refine ⟨_, rfl, ?_⟩
          replace hS8 := hS8.join rfl; dsimp only [List.dropLast, List.cons_append, List.nil_append] at hS8; clear hC8
          clear hS7
          rw [ho2] at hS8
          refine wl_move rfl rfl ?_
          refine wl_extract rfl rfl rfl ?_
          refine wl_extract rfl rfl rfl ?_
          refine wl_assign rfl rfl ?_
          refine wl_assign rfl rfl ?_
          refine wl_nil ?_
          refine qs_seq ?_
          refine wc_sub (L' := [(13, _), (12, _), (11, _), (9, _), (8, _), (0, _), (1, _), (2, _), (3, _)]) (.cons rfl (.cons rfl (.cons rfl (.cons rfl (.cons rfl (.cons rfl (.cons rfl (.cons rfl (.cons rfl .nil))))))))) ?_
          refine wc_seq ?_
          refine wc_seq ?_
          refine wc_region ?_
          refine wl_move rfl rfl ?_
          refine wl_eqlNil Tryd.underlying23 rfl rfl rfl ?_
          refine wl_move rfl rfl ?_
          refine wl_guard rfl rfl rfl ?_
          refine wl_move rfl rfl ?_
          refine wl_guard rfl rfl rfl ?_
          refine wl_eqlNil Tryd.underlying29 rfl rfl rfl ?_
          refine wl_pickF rfl rfl rfl rfl ?_
          refine wl_move rfl rfl ?_
          refine wl_guard rfl rfl rfl ?_
          refine wl_move rfl rfl ?_
          refine wl_guard rfl rfl rfl ?_
          refine wl_neq rfl rfl rfl ?_
          refine wl_pickF rfl rfl rfl rfl ?_
          refine wl_nil ?_
          refine qs_seq ?_
          refine wc_sub (L' := [(58, _), (13, _), (12, _), (11, _), (9, _), (8, _), (0, _), (1, _), (2, _), (3, _)]) (.cons rfl (.cons rfl (.cons rfl (.cons rfl (.cons rfl (.cons rfl (.cons rfl (.cons rfl (.cons rfl (.cons rfl .nil)))))))))) ?_
          refine wc_condD rfl (fun h9 => ?_) (fun h9 => ?_)
          · skip
            exact absurd rfl h9
          · skip
            refine wc_skip ?_
            refine qs_seq ?_
            refine wc_seq ?_
            refine wc_seq ?_
            refine wc_region ?_
            refine wl_assign rfl rfl ?_
            refine wl_nil ?_
            refine qs_seq ?_
            refine wc_block ?_
            refine wc_loop (fun K0 E0 W0 => ∃ (i c : Nat) (D : DS) (C : CS), K0 = l.length - i ∧ E0 = [(0, .slice ao l.length cap), (1, strV s), (2, .slice ao1 k1.length cap1), (3, .slice ao2 k2.length cap2), (9, .bool true), (11, ptrV p 0), (12, ptrV c 0), (14, intV (i : Int))] ∧ Sat W0 [blkT c (cellV p C), dT p D, F] ∧ (i ≤ l.length) ∧ (OkSt D 3 C AnyP) ∧ (C.slot ≤ 2)) (L0 := [(0, _), (1, _), (2, _), (3, _), (9, _), (11, _), (12, _), (14, _)]) (l.length) (.cons rfl (.cons rfl (.cons rfl (.cons rfl (.cons rfl (.cons rfl (.cons rfl (.cons rfl .nil)))))))) ⟨0, _, newD, newC 3, by omega, rfl, hS8.pick [0, 1, 2] rfl, by omega, .inl hg0, by decide⟩ ?_
            rintro _ _ w10 ⟨i, c, D, C, rfl, rfl, hS10, hi, hok, hsl⟩
            refine wc_seq ?_
            refine wc_seq ?_
            refine wc_region ?_
            refine wl_move rfl rfl ?_
            refine wl_move rfl rfl ?_
            refine wl_lenL Tryd.underlying38 rfl rfl ?_
            refine wl_lss rfl rfl rfl ?_
            refine wl_nil ?_
            refine qs_seq ?_
            refine wc_sub (L' := [(62, _), (0, _), (1, _), (2, _), (3, _), (9, _), (11, _), (12, _), (14, _)]) (.cons rfl (.cons rfl (.cons rfl (.cons rfl (.cons rfl (.cons rfl (.cons rfl (.cons rfl (.cons rfl .nil))))))))) ?_
            refine wc_condD rfl (fun h11 => ?_) (fun h11 => ?_)
            · skip
              obtain ⟨a, ha⟩ : ∃ a, l[i]? = some a := ⟨_, List.getElem?_eq_getElem (by omega)⟩
              obtain ⟨⟨bo, off, rfl, hc⟩, hopk⟩ := (hL.sat hS10 2 rfl).get ha
              clear hc
              refine wc_skip ?_
              refine qs_seq ?_
              refine wc_seq ?_
              refine wc_block ?_
              refine wc_seq ?_
              refine wc_region ?_
              refine wl_move rfl rfl ?_
              refine wl_move rfl rfl ?_
              refine wl_indexAddr _ rfl rfl (by first | rfl | omega) (by omega) es_38 rfl ?_
              refine wl_fieldAddr rfl fo_42_0 rfl ?_
              refine wl_load rfl ag_3 (RdX.cells (hL.sat hS10 2 rfl) ha 0 _ rfl) rfl ?_
              refine wl_nil ?_
              refine qs_seq ?_
              refine wc_sub (L' := [(69, _), (0, _), (1, _), (2, _), (3, _), (9, _), (11, _), (12, _), (14, _)]) (.cons rfl (.cons rfl (.cons rfl (.cons rfl (.cons rfl (.cons rfl (.cons rfl (.cons rfl (.cons rfl .nil))))))))) ?_
              refine wc_block ?_
              refine wc_seq ?_
              refine wc_region ?_
              refine wl_eql rfl rfl rfl ?_
              refine wl_assign rfl rfl ?_
              refine wl_nil ?_
              refine qs_seq ?_
              refine wc_condD rfl (fun h12 => ?_) (fun h12 => ?_)
              · skip
                refine wc_region ?_
                refine wl_move rfl rfl ?_
                refine wl_move rfl rfl ?_
                refine wl_move rfl rfl ?_
                refine wl_indexAddr _ rfl rfl (by first | rfl | omega) (by omega) es_38 rfl ?_
                refine wl_fieldAddr rfl fo_42_1 rfl ?_
                refine wl_load rfl ag_9 (RdX.cells (hL.sat hS10 2 rfl) ha 1 _ rfl) rfl ?_
                have hC13 := hS10.split [0, 1] [true, true, false] rfl; dsimp only [selF, pickA, nthA, List.cons_append, List.nil_append] at hC13
                refine wl_call cal_18 rfl (set_sp hC13 (hG.starL 0 rfl) hsl a.s) rfl ?_
                rintro e w13 ⟨_, rfl, rfl, hS13⟩; refine ⟨_, rfl, ?_⟩
                replace hS13 := hS13.join rfl; dsimp only [List.dropLast, List.cons_append, List.nil_append] at hS13; clear hC13
                clear hS10
                refine wl_nil ?_
                refine qs_block_normal ?_
                refine qs_block_normal ?_
                refine qs_seq ?_
                refine wc_sub (L' := [(0, _), (1, _), (2, _), (3, _), (9, _), (11, _), (12, _), (14, _)]) (.cons rfl (.cons rfl (.cons rfl (.cons rfl (.cons rfl (.cons rfl (.cons rfl (.cons rfl .nil)))))))) ?_
                refine wc_region ?_
                refine wl_move rfl rfl ?_
                refine wl_add rfl rfl (by omega) (by omega) rfl ?_
                refine wl_assign rfl rfl ?_
                refine wl_nil ?_
                exact qs_round (L1 := [(0, _), (1, _), (2, _), (3, _), (9, .bool true), (11, _), (12, _), (14, intV ((i + 1 : Nat) : Int))]) (.cons rfl (.cons rfl (.cons rfl (.cons rfl (.cons rfl (.cons rfl (.cons rfl (.cons rfl .nil)))))))) (k1 := l.length - (i + 1)) (by omega) ⟨i + 1, _, _, _, by omega, rfl, hS13.pick [0, 1, 2] rfl, by omega, (hok.set a.s (fun _ _ => trivial)).1, slot2_set hsl⟩
              · skip
                refine wc_seq ?_
                refine wc_region ?_
                refine wl_eql rfl rfl rfl ?_
                refine wl_assign rfl rfl ?_
                refine wl_nil ?_
                refine qs_seq ?_
                refine wc_sub (L' := [(79, _), (69, _), (0, _), (1, _), (2, _), (3, _), (9, _), (11, _), (12, _), (14, _)]) (.cons rfl (.cons rfl (.cons rfl (.cons rfl (.cons rfl (.cons rfl (.cons rfl (.cons rfl (.cons rfl (.cons rfl .nil)))))))))) ?_
                refine wc_condD rfl (fun h14 => ?_) (fun h14 => ?_)
                · skip
                  refine wc_region ?_
                  refine wl_move rfl rfl ?_
                  refine wl_move rfl rfl ?_
                  refine wl_move rfl rfl ?_
                  refine wl_indexAddr _ rfl rfl (by first | rfl | omega) (by omega) es_38 rfl ?_
                  refine wl_fieldAddr rfl fo_42_2 rfl ?_
                  refine wl_load rfl ag_3 (RdX.cells (hL.sat hS10 2 rfl) ha 2 _ rfl) rfl ?_
                  have hC15 := hS10.split [1] [false, true, false] rfl; dsimp only [selF, pickA, nthA, List.cons_append, List.nil_append] at hC15
                  refine wl_call cal_19 rfl (loseT hC15 a.n hopk.2) rfl ?_
                  rintro e w15 ⟨_, rfl, rfl, hS15⟩; refine ⟨_, rfl, ?_⟩
                  replace hS15 := hS15.join rfl; dsimp only [List.dropLast, List.cons_append, List.nil_append] at hS15; clear hC15
                  clear hS10
                  refine wl_nil ?_
                  refine qs_block_normal ?_
                  refine qs_block_normal ?_
                  refine qs_seq ?_
                  refine wc_sub (L' := [(0, _), (1, _), (2, _), (3, _), (9, _), (11, _), (12, _), (14, _)]) (.cons rfl (.cons rfl (.cons rfl (.cons rfl (.cons rfl (.cons rfl (.cons rfl (.cons rfl .nil)))))))) ?_
                  refine wc_region ?_
                  refine wl_move rfl rfl ?_
                  refine wl_add rfl rfl (by omega) (by omega) rfl ?_
                  refine wl_assign rfl rfl ?_
                  refine wl_nil ?_
                  exact qs_round (L1 := [(0, _), (1, _), (2, _), (3, _), (9, .bool true), (11, _), (12, _), (14, intV ((i + 1 : Nat) : Int))]) (.cons rfl (.cons rfl (.cons rfl (.cons rfl (.cons rfl (.cons rfl (.cons rfl (.cons rfl .nil)))))))) (k1 := l.length - (i + 1)) (by omega) ⟨i + 1, _, _, _, by omega, rfl, hS15.pick [1, 0, 2] rfl, by omega, hok.lose _, hsl⟩
                · skip
                  refine wc_seq ?_
                  refine wc_region ?_
                  refine wl_eql rfl rfl rfl ?_
                  refine wl_assign rfl rfl ?_
                  refine wl_nil ?_
                  refine qs_seq ?_
                  refine wc_sub (L' := [(88, _), (0, _), (1, _), (2, _), (3, _), (9, _), (11, _), (12, _), (14, _)]) (.cons rfl (.cons rfl (.cons rfl (.cons rfl (.cons rfl (.cons rfl (.cons rfl (.cons rfl (.cons rfl .nil))))))))) ?_
                  refine wc_condD rfl (fun h16 => ?_) (fun h16 => ?_)
                  · skip
                    obtain ⟨hE9, s9, v9, hC9, hs9, _, hg9, hf9⟩ := hok.again a.ks
                    refine wc_seq ?_
                    refine wc_region ?_
                    refine wl_move rfl rfl ?_
                    refine wl_move rfl rfl ?_
                    refine wl_move rfl rfl ?_
                    refine wl_indexAddr _ rfl rfl (by first | rfl | omega) (by omega) es_38 rfl ?_
                    refine wl_fieldAddr rfl fo_42_3 rfl ?_
                    refine wl_load rfl ag_39 (RdX.cells (hL.sat hS10 2 rfl) ha 3 _ rfl) rfl ?_
                    have hC17 := hS10.split [1] [false, true, false] rfl; dsimp only [selF, pickA, nthA, List.cons_append, List.nil_append] at hC17
                    refine wl_call cal_20 rfl (again_sp hC17 (hG.starL 1 rfl) (op_ent (hL.starL 1 rfl) ha) hE9) rfl ?_
                    rintro e w17 ⟨_, rfl, c9, rfl, hS17⟩; refine ⟨_, rfl, ?_⟩
                    replace hS17 := hS17.join rfl; dsimp only [List.dropLast, List.cons_append, List.nil_append] at hS17; clear hC17
                    clear hS10
                    refine wl_move rfl rfl ?_
                    refine wl_extract rfl rfl rfl ?_
                    refine wl_extract rfl rfl rfl ?_
                    refine wl_assign rfl rfl ?_
                    refine wl_assign rfl rfl ?_
                    refine wl_nil ?_
                    refine qs_seq ?_
                    refine wc_sub (L' := [(13, _), (12, _), (0, _), (1, _), (2, _), (3, _), (9, _), (11, _), (14, _)]) (.cons rfl (.cons rfl (.cons rfl (.cons rfl (.cons rfl (.cons rfl (.cons rfl (.cons rfl (.cons rfl .nil))))))))) ?_
                    refine wc_seq ?_
                    rw [hC9] at hS17
                    refine wc_region ?_
                    refine wl_move rfl rfl ?_
                    refine wl_eqlNil Tryd.underlying29 rfl rfl rfl ?_
                    refine wl_move rfl rfl ?_
                    refine wl_guard rfl rfl rfl ?_
                    refine wl_move rfl rfl ?_
                    refine wl_guard rfl rfl rfl ?_
                    refine wl_neq rfl rfl rfl ?_
                    refine wl_pickF rfl rfl rfl rfl ?_
                    refine wl_nil ?_
                    refine qs_seq ?_
                    refine wc_sub (L' := [(105, _), (13, _), (12, _), (0, _), (1, _), (2, _), (3, _), (9, _), (11, _), (14, _)]) (.cons rfl (.cons rfl (.cons rfl (.cons rfl (.cons rfl (.cons rfl (.cons rfl (.cons rfl (.cons rfl (.cons rfl .nil)))))))))) ?_
                    refine wc_condD rfl (fun h18 => ?_) (fun h18 => ?_)
                    · skip
                      exact absurd rfl h18
                    · skip
                      refine wc_skip ?_
                      refine qs_block_normal ?_
                      refine qs_block_normal ?_
                      refine qs_seq ?_
                      refine wc_region ?_
                      refine wl_move rfl rfl ?_
                      refine wl_add rfl rfl (by omega) (by omega) rfl ?_
                      refine wl_assign rfl rfl ?_
                      refine wl_nil ?_
                      exact qs_round (L1 := [(0, _), (1, _), (2, _), (3, _), (9, .bool true), (11, _), (12, _), (14, intV ((i + 1 : Nat) : Int))]) (.cons rfl (.cons rfl (.cons rfl (.cons rfl (.cons rfl (.cons rfl (.cons rfl (.cons rfl .nil)))))))) (k1 := l.length - (i + 1)) (by omega) ⟨i + 1, _, _, _, by omega, rfl, hS17.pick [0, 1, 3] rfl, by omega, .inl hg9, hs9⟩
                  · skip
                    refine wc_skip ?_
                    refine qs_block_normal ?_
                    refine qs_block_normal ?_
                    refine qs_seq ?_
                    refine wc_region ?_
                    refine wl_move rfl rfl ?_
                    refine wl_add rfl rfl (by omega) (by omega) rfl ?_
                    refine wl_assign rfl rfl ?_
                    refine wl_nil ?_
                    exact qs_round (L1 := [(0, _), (1, _), (2, _), (3, _), (9, .bool true), (11, _), (12, _), (14, intV ((i + 1 : Nat) : Int))]) (.cons rfl (.cons rfl (.cons rfl (.cons rfl (.cons rfl (.cons rfl (.cons rfl (.cons rfl .nil)))))))) (k1 := l.length - (i + 1)) (by omega) ⟨i + 1, _, _, _, by omega, rfl, hS10.pick [0, 1, 2] rfl, by omega, hok, hsl⟩
            · skip
              refine wc_exit ?_
              refine qs_then_exit ?_
              refine qs_then_exit ?_
              refine qs_block_exit ?_
              refine qs_seq ?_
              refine wc_seq ?_
              refine wc_seq ?_
              refine wc_region ?_
              refine wl_move rfl rfl ?_
              refine wl_move rfl rfl ?_
              have hC19 := hS10.split [0, 1] [true, true, false] rfl; dsimp only [selF, pickA, nthA, List.cons_append, List.nil_append] at hC19
              refine wl_call cal_18 rfl (set_sp hC19 (hG.starL 0 rfl) hsl s) rfl ?_
              rintro e w19 ⟨_, rfl, rfl, hS19⟩; refine ⟨_, rfl, ?_⟩
              replace hS19 := hS19.join rfl; dsimp only [List.dropLast, List.cons_append, List.nil_append] at hS19; clear hC19
              clear hS10
              refine wl_neq rfl rfl rfl ?_
              refine wl_nil ?_
              refine qs_seq ?_
              refine wc_sub (L' := [(109, _), (1, _), (2, _), (3, _), (9, _), (11, _), (12, _)]) (.cons rfl (.cons rfl (.cons rfl (.cons rfl (.cons rfl (.cons rfl (.cons rfl .nil))))))) ?_
              refine wc_condD rfl (fun h20 => ?_) (fun h20 => ?_)
              · skip
                skip
                refine wc_seq ?_
                refine wc_region ?_
                refine wl_move rfl rfl ?_
                refine wl_assign rfl rfl ?_
                refine wl_nil ?_
                refine qs_seq ?_
                refine wc_ret ?_
                refine qs_then_ret ?_
                refine fin1 (.inr rfl) rfl rfl ?_
                exact ⟨_, rfl, rfl, hS19.pick [2] rfl⟩
              · skip
                have he7 : (setR D C s).e = 0 := Decidable.not_not.1 h20
                obtain ⟨g7, f7, _, hv7, hsl7, _⟩ := (hok.set s (fun _ _ => trivial)).2 he7
                let StP : Nat → Bytes → Prop := fun sl v => 0 < sl ∧ v = s
                have hst : Good (setR D C s).D 3 (setR D C s).C StP := g7.narrow f7 ⟨hsl7, hv7⟩
                refine wc_skip ?_
                refine qs_seq ?_
                refine wc_seq ?_
                refine wc_region ?_
                obtain ⟨M, hM⟩ : ∃ M : Nat, M = 65537 := ⟨_, rfl⟩
                refine wl_make hS19 M rfl rfl (by rw [hM]; rfl) Tryd.underlying46 ifo_5 rfl (by omega) (by omega) rfl ?_
                intro bm wm hSm; rw [zeros_made] at hSm
                refine wl_strB 0 hSm (List.replicate M 0) rfl rfl rfl Tryd.underlying46 Tryd.underlying5 Tryd.underlying9 (by rw [List.drop_zero, List.take_of_length_le (by rw [bytesV_length, List.length_replicate]; omega)]) (by rw [List.length_replicate]) rfl ?_
                obtain ⟨z, hz⟩ : ∃ z : Bytes, z = List.replicate M 0 := ⟨_, rfl⟩; rw [← hz]; have hzl : 65536 < z.length := by rw [hz, List.length_replicate]; omega
                clear hz
                refine wl_assign rfl rfl ?_
                refine wl_nil ?_
                refine qs_seq ?_
                refine wc_seq ?_
                refine wc_seq ?_
                refine wc_region ?_
                refine wl_move rfl rfl ?_
                refine wl_move rfl rfl ?_
                have hC21 := hSm.split [1, 2] [false, true, true, false] rfl; dsimp only [selF, pickA, nthA, List.cons_append, List.nil_append] at hC21
                refine wl_call cal_18 rfl (set_sp hC21 (hG.starL 1 rfl) (slot2_set hsl) z) rfl ?_
                rintro e w21 ⟨_, rfl, rfl, hS21⟩; refine ⟨_, rfl, ?_⟩
                replace hS21 := hS21.join rfl; dsimp only [List.dropLast, List.cons_append, List.nil_append] at hS21; clear hC21
                clear hSm
                rw [setR_long hzl] at hS21 ⊢
                refine wl_neq rfl rfl rfl ?_
                refine wl_nil ?_
                refine qs_seq ?_
                refine wc_sub (L' := [(116, _), (1, _), (2, _), (3, _), (9, _), (11, _), (12, _)]) (.cons rfl (.cons rfl (.cons rfl (.cons rfl (.cons rfl (.cons rfl (.cons rfl .nil))))))) ?_
                refine wc_condD rfl (fun h22 => ?_) (fun h22 => ?_)
                · skip
                  exact absurd rfl h22
                · skip
                  refine wc_skip ?_
                  refine qs_seq ?_
                  refine wc_seq ?_
                  refine wc_seq ?_
                  refine wc_region ?_
                  refine wl_assign rfl rfl ?_
                  refine wl_nil ?_
                  refine qs_seq ?_
                  refine wc_block ?_
                  refine wc_loop (fun K0 E0 W0 => ∃ (i c : Nat) (D : DS) (C : CS), K0 = 2 - i ∧ E0 = [(1, strV s), (2, .slice ao1 k1.length cap1), (3, .slice ao2 k2.length cap2), (9, .bool true), (11, ptrV p 0), (12, ptrV c 0), (16, intV (i : Int))] ∧ Sat W0 [blkT c (cellV p C), dT p D, F] ∧ (i ≤ 2) ∧ (Good D 3 C StP)) (L0 := [(1, _), (2, _), (3, _), (9, _), (11, _), (12, _), (16, _)]) (2) (.cons rfl (.cons rfl (.cons rfl (.cons rfl (.cons rfl (.cons rfl (.cons rfl .nil))))))) ⟨0, _, _, _, rfl, rfl, hS21.pick [0, 1, 3] rfl, by omega, hst⟩ ?_
                  rintro _ _ w23 ⟨i, c, D, C, rfl, rfl, hS23, hi, hok⟩
                  obtain ⟨hc0, hcv⟩ := hok.pc
                  refine wc_seq ?_
                  refine wc_seq ?_
                  refine wc_region ?_
                  refine wl_move rfl rfl ?_
                  refine wl_lss rfl rfl rfl ?_
                  refine wl_nil ?_
                  refine qs_seq ?_
                  refine wc_condD rfl (fun h24 => ?_) (fun h24 => ?_)
                  · skip
                    refine wc_skip ?_
                    refine qs_seq ?_
                    refine wc_seq ?_
                    refine wc_block ?_
                    refine wc_seq ?_
                    refine wc_region ?_
                    refine wl_move rfl rfl ?_
                    have hC25 := hS23.split [0] [true, false, false] rfl; dsimp only [selF, pickA, nthA, List.cons_append, List.nil_append] at hC25
                    refine wl_call cal_15 rfl (get_sp hC25) rfl ?_
                    rintro e w25 ⟨_, rfl, rfl, hS25⟩; refine ⟨_, rfl, ?_⟩
                    replace hS25 := hS25.join rfl; dsimp only [List.dropLast, List.cons_append, List.nil_append] at hS25; clear hC25
                    clear hS23
                    refine wl_move rfl rfl ?_
                    refine wl_extract rfl rfl rfl ?_
                    refine wl_extract rfl rfl rfl ?_
                    refine wl_assign rfl rfl ?_
                    refine wl_assign rfl rfl ?_
                    refine wl_nil ?_
                    refine qs_seq ?_
                    refine wc_sub (L' := [(18, _), (17, _), (1, _), (2, _), (3, _), (9, _), (11, _), (12, _), (16, _)]) (.cons rfl (.cons rfl (.cons rfl (.cons rfl (.cons rfl (.cons rfl (.cons rfl (.cons rfl (.cons rfl .nil))))))))) ?_
                    refine wc_seq ?_
                    refine wc_seq ?_
                    refine wc_region ?_
                    refine wl_move rfl rfl ?_
                    refine wl_move rfl rfl ?_
                    refine wl_neqS rfl rfl rfl ?_
                    refine wl_move rfl rfl ?_
                    refine wl_splitD 129 rfl (fun h26 => ?_) (fun h26 => ?_)
                    · skip
                      exact absurd hcv h26
                    · skip
                      refine wl_guard rfl rfl (decide_eq_false h26) ?_
                      refine wl_move rfl rfl ?_
                      refine wl_guard rfl rfl (decide_eq_false h26) ?_
                      refine wl_not rfl rfl ?_
                      refine wl_pickF rfl (decide_eq_false h26) rfl rfl ?_
                      refine wl_nil ?_
                      refine qs_seq ?_
                      refine wc_sub (L' := [(132, _), (1, _), (2, _), (3, _), (9, _), (11, _), (12, _), (16, _)]) (.cons rfl (.cons rfl (.cons rfl (.cons rfl (.cons rfl (.cons rfl (.cons rfl (.cons rfl .nil)))))))) ?_
                      refine wc_cond rfl (fun h27 => ?_) (fun h27 => ?_)
                      · skip
                        simp [hc0] at h27
                      · skip
                        refine wc_skip ?_
                        refine qs_seq ?_
                        refine wc_seq ?_
                        refine wc_region ?_
                        refine wl_move rfl rfl ?_
                        refine wl_assign rfl rfl ?_
                        refine wl_nil ?_
                        refine qs_seq ?_
                        refine wc_mid (fun E0 W0 => ∃ (kx : Value) (kl : List Int), E0 = [(1, strV s), (2, .slice ao1 k1.length cap1), (3, .slice ao2 k2.length cap2), (9, .bool true), (11, ptrV p 0), (12, ptrV c 0), (16, intV (i : Int)), (19, kx)] ∧ Sat W0 [blkT c (cellV p C), dT p D, F] ∧ (Ent F (RdI kx kl))) ?_ ?_
                        · skip
                          refine wc_seq ?_
                          refine wc_region ?_
                          refine wl_move rfl rfl ?_
                          refine wl_eql rfl rfl rfl ?_
                          refine wl_nil ?_
                          refine qs_seq ?_
                          refine wc_sub (L' := [(135, _), (19, _), (1, _), (2, _), (3, _), (9, _), (11, _), (12, _), (16, _)]) (.cons rfl (.cons rfl (.cons rfl (.cons rfl (.cons rfl (.cons rfl (.cons rfl (.cons rfl (.cons rfl .nil))))))))) ?_
                          refine wc_condD rfl (fun h29 => ?_) (fun h29 => ?_)
                          · skip
                            refine wc_region ?_
                            refine wl_move rfl rfl ?_
                            refine wl_assign rfl rfl ?_
                            refine wl_nil ?_
                            exact qs_mid (.cons rfl (.cons rfl (.cons rfl (.cons rfl (.cons rfl (.cons rfl (.cons rfl (.cons rfl .nil)))))))) ⟨_, _, rfl, hS25.pick [0, 1, 2] rfl, hK2⟩
                          · skip
                            refine wc_skip ?_
                            exact qs_mid (.cons rfl (.cons rfl (.cons rfl (.cons rfl (.cons rfl (.cons rfl (.cons rfl (.cons rfl .nil)))))))) ⟨_, _, rfl, hS25.pick [0, 1, 2] rfl, hK1⟩
                        rintro _ w28 ⟨kx, kl, rfl, hS28, hkx⟩
                        refine wc_seq ?_
                        refine wc_region ?_
                        refine wl_move rfl rfl ?_
                        refine wl_move rfl rfl ?_
                        obtain ⟨hE9, s9, v9, hC9, hs9, _, hg9, hf9⟩ := OkSt.again (.inl hok) kl
                        have hC30 := hS28.split [1] [false, true, false] rfl; dsimp only [selF, pickA, nthA, List.cons_append, List.nil_append] at hC30
                        refine wl_call cal_20 rfl (again_sp hC30 (hG.starL 1 rfl) (hkx.starL 1 rfl) hE9) rfl ?_
                        rintro e w30 ⟨_, rfl, c9, rfl, hS30⟩; refine ⟨_, rfl, ?_⟩
                        replace hS30 := hS30.join rfl; dsimp only [List.dropLast, List.cons_append, List.nil_append] at hS30; clear hC30
                        clear hS28
                        refine wl_move rfl rfl ?_
                        refine wl_extract rfl rfl rfl ?_
                        refine wl_extract rfl rfl rfl ?_
                        refine wl_assign rfl rfl ?_
                        refine wl_assign rfl rfl ?_
                        refine wl_nil ?_
                        refine qs_seq ?_
                        refine wc_sub (L' := [(13, _), (12, _), (1, _), (2, _), (3, _), (9, _), (11, _), (16, _)]) (.cons rfl (.cons rfl (.cons rfl (.cons rfl (.cons rfl (.cons rfl (.cons rfl (.cons rfl .nil)))))))) ?_
                        refine wc_seq ?_
                        rw [hC9] at hS30
                        refine wc_region ?_
                        refine wl_move rfl rfl ?_
                        refine wl_eqlNil Tryd.underlying29 rfl rfl rfl ?_
                        refine wl_move rfl rfl ?_
                        refine wl_guard rfl rfl rfl ?_
                        refine wl_move rfl rfl ?_
                        refine wl_guard rfl rfl rfl ?_
                        refine wl_neq rfl rfl rfl ?_
                        refine wl_pickF rfl rfl rfl rfl ?_
                        refine wl_nil ?_
                        refine qs_seq ?_
                        refine wc_sub (L' := [(148, _), (12, _), (1, _), (2, _), (3, _), (9, _), (11, _), (16, _)]) (.cons rfl (.cons rfl (.cons rfl (.cons rfl (.cons rfl (.cons rfl (.cons rfl (.cons rfl .nil)))))))) ?_
                        refine wc_condD rfl (fun h31 => ?_) (fun h31 => ?_)
                        · skip
                          exact absurd rfl h31
                        · skip
                          refine wc_skip ?_
                          refine qs_block_normal ?_
                          refine qs_seq ?_
                          refine wc_region ?_
                          refine wl_move rfl rfl ?_
                          refine wl_add rfl rfl (by omega) (by omega) rfl ?_
                          refine wl_assign rfl rfl ?_
                          refine wl_nil ?_
                          exact qs_round (L1 := [(1, _), (2, _), (3, _), (9, .bool true), (11, _), (12, _), (16, intV ((i + 1 : Nat) : Int))]) (.cons rfl (.cons rfl (.cons rfl (.cons rfl (.cons rfl (.cons rfl (.cons rfl .nil))))))) (k1 := 2 - (i + 1)) (by omega) ⟨i + 1, _, _, _, rfl, rfl, hS30.pick [0, 1, 3] rfl, by omega, hg9⟩
                  · skip
                    refine wc_exit ?_
                    refine qs_then_exit ?_
                    refine qs_then_exit ?_
                    refine qs_block_exit ?_
                    refine qs_seq ?_
                    refine wc_seq ?_
                    refine wc_region ?_
                    refine wl_move rfl rfl ?_
                    have hC32 := hS23.split [0] [true, false, false] rfl; dsimp only [selF, pickA, nthA, List.cons_append, List.nil_append] at hC32
                    refine wl_call cal_15 rfl (get_sp hC32) rfl ?_
                    rintro e w32 ⟨_, rfl, rfl, hS32⟩; refine ⟨_, rfl, ?_⟩
                    replace hS32 := hS32.join rfl; dsimp only [List.dropLast, List.cons_append, List.nil_append] at hS32; clear hC32
                    clear hS23
                    refine wl_move rfl rfl ?_
                    refine wl_extract rfl rfl rfl ?_
                    refine wl_extract rfl rfl rfl ?_
                    refine wl_assign rfl rfl ?_
                    refine wl_assign rfl rfl ?_
                    refine wl_nil ?_
                    refine qs_seq ?_
                    refine wc_sub (L' := [(21, _), (20, _), (1, _), (9, _)]) (.cons rfl (.cons rfl (.cons rfl (.cons rfl .nil)))) ?_
                    refine wc_seq ?_
                    refine wc_region ?_
                    refine wl_move rfl rfl ?_
                    refine wl_move rfl rfl ?_
                    refine wl_guard rfl rfl rfl ?_
                    refine wl_move rfl rfl ?_
                    refine wl_guard rfl rfl rfl ?_
                    refine wl_move rfl rfl ?_
                    refine wl_guard rfl rfl rfl ?_
                    refine wl_eqlS rfl rfl rfl ?_
                    refine wl_pickT rfl rfl rfl rfl ?_
                    refine wl_move rfl rfl ?_
                    refine wl_splitD 160 rfl (fun h33 => ?_) (fun h33 => ?_)
                    · skip
                      refine wl_guard rfl rfl (decide_eq_true h33) ?_
                      refine wl_move rfl rfl ?_
                      refine wl_pickT rfl (decide_eq_true h33) rfl rfl ?_
                      refine wl_assign rfl rfl ?_
                      refine wl_nil ?_
                      refine qs_seq ?_
                      refine wc_sub (L' := [(8, _)]) (.cons rfl .nil) ?_
                      refine wc_ret ?_
                      refine fin1 (.inr rfl) rfl rfl ?_
                      exact ⟨_, rfl, by simp [hc0], hS32.pick [2] rfl⟩
                    · skip
                      exact absurd hcv h33

theorem stays_row {W : World} (hG : Glob 0 W) {v0 v2 v3 : Value} {s : ByteArray} {l0 : List (Int × ByteArray × Int × List Int × Unit)} {l2 l3 : List Int} (h0 : SliceRd opC.rd opC.size W v0 l0) (_h1 : s.size ≤ 9223372036854775807) (h2 : SliceRd intC.rd intC.size W v2 l2) (h3 : SliceRd intC.rd intC.size W v3 l3) :
    Calls Tryd.prog 4 #[v0, .string s, v2, v3] W fun e W' => e = .returned (.bool true) ∧ Below W.heap.size W W' := by
  obtain ⟨a0, h0⟩ := ops_of h0
  rw [strV_of]
  exact (stays_law (Sat.start W) hG.frame s.data.toList (Ent.frame h0) (Ent.frame (rdI_of h2)) (Ent.frame (rdI_of h3))).mono fun e W' ⟨v, h4, h5, h6⟩ => ⟨by rw [h4, h5], below_of h6⟩
end Go.Proofs.YtleaahajkncnpaaDoor
