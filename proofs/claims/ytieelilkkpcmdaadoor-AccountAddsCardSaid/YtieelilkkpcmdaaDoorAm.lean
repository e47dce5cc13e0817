/- laws of account: AccountAdds -/
import Derived.Test.YtieelilkkpcmdaaDoorAl
namespace Go.Proofs.YtieelilkkpcmdaaDoor
open Go.RowKit M
set_option linter.unusedVariables false
set_option maxRecDepth 100000 in
theorem adds_law {w : World} {F : Th} (hS : Sat w [F]) (hG : Ent F WireG) {lv : Value} {l : List OpA} (hL : Ent F (RdL aC lv l)) :
    Calls Tryd.prog 6 #[lv] w (Ret fun v w' => v = .bool true ∧ Sat w' [F]) := by
  obtain ⟨ao, cap, rfl, hmax⟩ := (hL.sat hS 0 rfl).shape
  refine calls_enter Tryd.func6 rfl Tryd.ntmps6 rfl ?_
  refine wc_seq ?_
  refine wc_region ?_
  refine wl_assign rfl rfl ?_
  refine wl_nil ?_
  refine qs_seq ?_
  refine wc_seq ?_
  refine wc_region ?_
  have hC1 := hS.split [] [false] rfl; dsimp only [selF, pickA, nthA, List.cons_append, List.nil_append] at hC1
  refine wl_call cal_25 rfl (asmall_sp hC1 (hG.starL 0 rfl)) rfl ?_
  rintro e w1 ⟨_, rfl, rfl, hS1⟩; refine ⟨_, rfl, ?_⟩
  replace hS1 := hS1.join rfl; dsimp only [List.dropLast, List.cons_append, List.nil_append] at hS1; clear hC1
  refine wl_assign rfl rfl ?_
  refine wl_nil ?_
  refine qs_seq ?_
  refine wc_seq ?_
  refine wc_region ?_
  have hC2 := hS1.split [] [false] rfl; dsimp only [selF, pickA, nthA, List.cons_append, List.nil_append] at hC2
  refine wl_call cal_26 rfl (new_sp hC2) rfl ?_
  rintro e w2 ⟨_, rfl, p, rfl, hS2⟩; refine ⟨_, rfl, ?_⟩
  replace hS2 := hS2.join rfl; dsimp only [List.dropLast, List.cons_append, List.nil_append] at hS2; clear hC2
  clear hS1
  refine wl_assign rfl rfl ?_
  refine wl_nil ?_
  refine qs_seq ?_
  refine wc_seq ?_
  refine wc_seq ?_
  refine wc_region ?_
  refine wl_move rfl rfl ?_
  have hC3 := hS2.split [] [false, false] rfl; dsimp only [selF, pickA, nthA, List.cons_append, List.nil_append] at hC3
  refine wl_call cal_27 rfl (afew_sp hC3 (hL.starL 1 rfl)) rfl ?_
  rintro e w3 ⟨_, rfl, rfl, hS3⟩; refine ⟨_, rfl, ?_⟩
  replace hS3 := hS3.join rfl; dsimp only [List.dropLast, List.cons_append, List.nil_append] at hS3; clear hC3
  clear hS2
  refine wl_not rfl rfl ?_
  refine wl_move rfl rfl ?_
  refine wl_split 14 rfl (fun h4 => ?_) (fun h4 => ?_)
  · skip
    refine wl_unwanted rfl rfl h4 rfl ?_
    refine wl_unwanted rfl rfl h4 rfl ?_
    refine wl_pickT rfl h4 rfl rfl ?_
    refine wl_nil ?_
    refine qs_seq ?_
    refine wc_sub (L' := [(17, _), (4, _), (3, _), (2, _), (0, _)]) (.cons rfl (.cons rfl (.cons rfl (.cons rfl (.cons rfl .nil))))) ?_
    refine wc_condT rfl ?_
    refine wc_seq ?_
    refine wc_region ?_
    refine wl_move rfl rfl ?_
    refine wl_move rfl rfl ?_
    refine wl_guard rfl rfl rfl ?_
    refine wl_move rfl rfl ?_
    refine wl_guard rfl rfl rfl ?_
    refine wl_neqNil Tryd.underlying26 rfl rfl rfl ?_
    refine wl_pickT rfl rfl rfl rfl ?_
    refine wl_assign rfl rfl ?_
    refine wl_nil ?_
    refine qs_seq ?_
    refine wc_ret ?_
    refine qs_then_ret ?_
    refine fin1 (.inr rfl) rfl rfl ?_
    exact ⟨_, rfl, rfl, hS3.pick [1] rfl⟩
  · skip
    refine wl_guard rfl rfl h4 ?_
    refine wl_move rfl rfl ?_
    refine wl_guard rfl rfl h4 ?_
    refine wl_eqlNil Tryd.underlying26 rfl rfl rfl ?_
    refine wl_pickF rfl h4 rfl rfl ?_
    refine wl_nil ?_
    refine qs_seq ?_
    refine wc_sub (L' := [(17, _), (4, _), (3, _), (2, _), (0, _)]) (.cons rfl (.cons rfl (.cons rfl (.cons rfl (.cons rfl .nil))))) ?_
    refine wc_condF rfl ?_
    refine wc_skip ?_
    refine qs_seq ?_
    refine wc_seq ?_
    refine wc_region ?_
    refine wl_assign rfl rfl ?_
    refine wl_nil ?_
    refine qs_seq ?_
    refine wc_seq ?_
    refine wc_seq ?_
    refine wc_region ?_
    refine wl_assign rfl rfl ?_
    refine wl_nil ?_
    refine qs_seq ?_
    refine wc_block ?_
    refine wc_loop (fun K0 E0 W0 => ∃ (i : Nat) (u : Int) (W : WS), K0 = l.length - i ∧ E0 = [(0, .slice ao l.length cap), (3, .bool true), (4, ptrV p 0), (5, intV u), (6, intV (i : Int))] ∧ Sat W0 [worldT p W, F] ∧ (i ≤ l.length) ∧ (AccI W u)) (L0 := [(0, _), (3, _), (4, _), (5, _), (6, _)]) (l.length - 0) (.cons rfl (.cons rfl (.cons rfl (.cons rfl (.cons rfl .nil))))) ⟨0, 0, _, rfl, rfl, hS3, by omega, AccI.empty⟩ ?_
    rintro _ _ w5 ⟨i, u, W, rfl, rfl, hS5, hi, hA⟩
    have hlo0 := hA.lo
    have hhi0 := hA.hi
    refine wc_seq ?_
    refine wc_seq ?_
    refine wc_region ?_
    refine wl_move rfl rfl ?_
    refine wl_move rfl rfl ?_
    refine wl_lenL Tryd.underlying44 rfl rfl ?_
    refine wl_lss rfl rfl rfl ?_
    refine wl_nil ?_
    refine qs_seq ?_
    refine wc_condD rfl (fun h6 => ?_) (fun h6 => ?_)
    · skip
      obtain ⟨o, ho⟩ : ∃ o, l[i]? = some o := ⟨_, List.getElem?_eq_getElem (by omega)⟩
      obtain ⟨b, off, rfl, hc⟩ := (hL.sat hS5 1 rfl).get ho
      refine wc_skip ?_
      refine qs_seq ?_
      refine wc_seq ?_
      refine wc_block ?_
      refine wc_seq ?_
      refine wc_region ?_
      refine wl_move rfl rfl ?_
      refine wl_move rfl rfl ?_
      refine wl_indexAddr i rfl rfl (by first | rfl | omega) (by omega) es_44 rfl ?_
      refine wl_fieldAddr rfl fo_47_1 rfl ?_
      refine wl_load rfl ag_3 (hc 1 _ rfl) rfl ?_
      refine wl_assign rfl rfl ?_
      refine wl_nil ?_
      refine qs_seq ?_
      refine wc_sub (L' := [(7, _), (0, _), (3, _), (4, _), (5, _), (6, _)]) (.cons rfl (.cons rfl (.cons rfl (.cons rfl (.cons rfl (.cons rfl .nil)))))) ?_
      refine wc_seq ?_
      refine wc_seq ?_
      refine wc_region ?_
      refine wl_move rfl rfl ?_
      refine wl_move rfl rfl ?_
      refine wl_indexAddr i rfl rfl (by first | rfl | omega) (by omega) es_44 rfl ?_
      refine wl_fieldAddr rfl fo_47_0 rfl ?_
      refine wl_load rfl ag_3 (hc 0 _ rfl) rfl ?_
      refine wl_mask 2 rfl rfl rfl rfl (q := 4) rfl rfl ?_
      refine wl_lss rfl rfl rfl ?_
      refine wl_nil ?_
      refine qs_seq ?_
      refine wc_sub (L' := [(40, _), (7, _), (0, _), (3, _), (4, _), (5, _), (6, _)]) (.cons rfl (.cons rfl (.cons rfl (.cons rfl (.cons rfl (.cons rfl (.cons rfl .nil))))))) ?_
      refine wc_condD rfl (fun h7 => ?_) (fun h7 => ?_)
      · skip
        refine wc_seq ?_
        refine wc_region ?_
        refine wl_move rfl rfl ?_
        refine wl_makeIface nif_26 rfl rfl ?_
        refine wl_move rfl rfl ?_
        have hC8 := hS5.split [0] [true, false] rfl; dsimp only [selF, pickA, nthA, List.cons_append, List.nil_append] at hC8
        refine wl_call cal_28 rfl (charge3 hC8 (hG.starL 0 rfl) hA o.n) rfl ?_
        rintro e w8 ⟨_, rfl, (⟨hn1, rfl, hS8⟩ | ⟨hn1, hn2, rfl, hS8⟩ | ⟨hn1, hn2, rfl, W2, hA2, hS8⟩)⟩
        · skip
          refine ⟨_, rfl, ?_⟩
          replace hS8 := hS8.join rfl; dsimp only [List.dropLast, List.cons_append, List.nil_append] at hS8; clear hC8
          clear hS5
          refine wl_assign rfl rfl ?_
          refine wl_nil ?_
          refine qs_seq ?_
          refine wc_sub (L' := [(8, _), (7, _), (0, _), (3, _), (4, _), (5, _), (6, _)]) (.cons rfl (.cons rfl (.cons rfl (.cons rfl (.cons rfl (.cons rfl (.cons rfl .nil))))))) ?_
          refine wc_seq ?_
          refine wc_seq ?_
          refine wc_region ?_
          refine wl_move rfl rfl ?_
          refine wl_lss rfl rfl rfl ?_
          refine wl_move rfl rfl ?_
          refine wl_splitD 47 rfl (fun h9 => ?_) (fun h9 => ?_)
          · skip
            refine wl_guard rfl rfl (decide_eq_true h9) ?_
            refine wl_move rfl rfl ?_
            refine wl_guard rfl rfl (decide_eq_true h9) ?_
            refine wl_neq rfl rfl rfl ?_
            refine wl_pickT rfl (decide_eq_true h9) rfl rfl ?_
            refine wl_move rfl rfl ?_
            refine wl_splitD 51 rfl (fun h10 => ?_) (fun h10 => ?_)
            · skip
              exact absurd h10 (by omega)
            · skip
              refine wl_guard rfl rfl (decide_eq_false h10) ?_
              refine wl_move rfl rfl ?_
              refine wl_guard rfl rfl (decide_eq_false h10) ?_
              refine wl_geq rfl rfl rfl ?_
              refine wl_guard rfl rfl (decide_eq_false h10) ?_
              refine wl_move rfl rfl ?_
              refine wl_splitD 54 rfl (fun h11 => ?_) (fun h11 => ?_)
              · skip
                exact absurd h11 (by omega)
              · skip
                refine wl_unwanted rfl rfl (decide_eq_false h11) rfl ?_
                refine wl_unwanted rfl rfl (decide_eq_false h11) rfl ?_
                refine wl_unwanted rfl rfl (decide_eq_false h11) rfl ?_
                refine wl_unwanted rfl rfl (decide_eq_false h11) rfl ?_
                refine wl_unwanted rfl rfl (decide_eq_false h11) rfl ?_
                refine wl_unwanted rfl rfl (decide_eq_false h11) rfl ?_
                refine wl_unwanted rfl rfl (decide_eq_false h11) rfl ?_
                refine wl_guard rfl rfl (decide_eq_false h10) ?_
                refine wl_pickF rfl (decide_eq_false h11) rfl rfl ?_
                refine wl_pickF rfl (decide_eq_false h10) rfl rfl ?_
                refine wl_move rfl rfl ?_
                refine wl_guard rfl rfl rfl ?_
                refine wl_move rfl rfl ?_
                refine wl_guard rfl rfl rfl ?_
                refine wl_geq rfl rfl rfl ?_
                refine wl_guard rfl rfl rfl ?_
                refine wl_move rfl rfl ?_
                refine wl_splitD 67 rfl (fun h12 => ?_) (fun h12 => ?_)
                · skip
                  exact absurd h12 (by omega)
                · skip
                  refine wl_unwanted rfl rfl (decide_eq_false h12) rfl ?_
                  refine wl_unwanted rfl rfl (decide_eq_false h12) rfl ?_
                  refine wl_guard rfl rfl rfl ?_
                  refine wl_pickF rfl (decide_eq_false h12) rfl rfl ?_
                  refine wl_guard rfl rfl rfl ?_
                  refine wl_move rfl rfl ?_
                  refine wl_unwanted rfl rfl rfl rfl ?_
                  refine wl_unwanted rfl rfl rfl rfl ?_
                  refine wl_guard rfl rfl rfl ?_
                  refine wl_pickF rfl rfl rfl rfl ?_
                  refine wl_pickF rfl rfl rfl rfl ?_
                  refine wl_nil ?_
                  refine qs_seq ?_
                  refine wc_sub (L' := [(75, _), (8, _), (7, _), (0, _), (3, _), (4, _), (5, _), (6, _)]) (.cons rfl (.cons rfl (.cons rfl (.cons rfl (.cons rfl (.cons rfl (.cons rfl (.cons rfl .nil)))))))) ?_
                  refine wc_condF rfl ?_
                  refine wc_skip ?_
                  refine qs_seq ?_
                  refine wc_seq ?_
                  refine wc_region ?_
                  refine wl_move rfl rfl ?_
                  refine wl_eql rfl rfl rfl ?_
                  refine wl_nil ?_
                  refine qs_seq ?_
                  refine wc_condD rfl (fun h13 => ?_) (fun h13 => ?_)
                  · skip
                    exact absurd h13 (by omega)
                  · skip
                    refine wc_skip ?_
                    refine qs_seq ?_
                    refine wc_seq ?_
                    refine wc_seq ?_
                    obtain ⟨_, _, hez, hc2⟩ := (hL.sat hS8 1 rfl).get ho; cases hez
                    refine wc_region ?_
                    refine wl_move rfl rfl ?_
                    refine wl_move rfl rfl ?_
                    refine wl_indexAddr i rfl rfl (by first | rfl | omega) (by omega) es_44 rfl ?_
                    refine wl_fieldAddr rfl fo_47_0 rfl ?_
                    refine wl_load rfl ag_3 (hc2 0 _ rfl) rfl ?_
                    refine wl_mask 2 rfl rfl rfl rfl (q := 4) rfl rfl ?_
                    refine wl_eql rfl rfl rfl ?_
                    refine wl_nil ?_
                    refine qs_seq ?_
                    refine wc_sub (L' := [(87, _), (7, _), (0, _), (3, _), (4, _), (5, _), (6, _)]) (.cons rfl (.cons rfl (.cons rfl (.cons rfl (.cons rfl (.cons rfl (.cons rfl .nil))))))) ?_
                    refine wc_condD rfl (fun h14 => ?_) (fun h14 => ?_)
                    · skip
                      exact absurd h14 (by omega)
                    · skip
                      refine wc_skip ?_
                      refine qs_seq ?_
                      refine wc_seq ?_
                      refine wc_region ?_
                      refine wl_move rfl rfl ?_
                      refine wl_makeIface nif_26 rfl rfl ?_
                      have hC15 := hS8.split [0] [true, false] rfl; dsimp only [selF, pickA, nthA, List.cons_append, List.nil_append] at hC15
                      refine wl_call cal_30 rfl (used3 hC15 (hG.starL 0 rfl) hA) rfl ?_
                      rintro e w15 ⟨_, rfl, rfl, hS15⟩; refine ⟨_, rfl, ?_⟩
                      replace hS15 := hS15.join rfl; dsimp only [List.dropLast, List.cons_append, List.nil_append] at hS15; clear hC15
                      clear hS8
                      have hlo := hA.lo
                      have hhi := hA.hi
                      refine wl_move rfl rfl ?_
                      refine wl_neq rfl rfl rfl ?_
                      refine wl_move rfl rfl ?_
                      refine wl_splitD 104 rfl (fun h16 => ?_) (fun h16 => ?_)
                      · skip
                        exact absurd h16 (by omega)
                      · skip
                        refine wl_guard rfl rfl (decide_eq_false h16) ?_
                        refine wl_move rfl rfl ?_
                        refine wl_guard rfl rfl (decide_eq_false h16) ?_
                        refine wl_gtr rfl rfl rfl ?_
                        refine wl_pickF rfl (decide_eq_false h16) rfl rfl ?_
                        refine wl_move rfl rfl ?_
                        refine wl_splitD 108 rfl (fun h17 => ?_) (fun h17 => ?_)
                        · skip
                          exact absurd h17 (by omega)
                        · skip
                          refine wl_guard rfl rfl (decide_eq_false h17) ?_
                          refine wl_move rfl rfl ?_
                          refine wl_guard rfl rfl (decide_eq_false h17) ?_
                          refine wl_lss rfl rfl rfl ?_
                          refine wl_pickF rfl (decide_eq_false h17) rfl rfl ?_
                          refine wl_nil ?_
                          refine qs_seq ?_
                          refine wc_sub (L' := [(111, _), (0, _), (3, _), (4, _), (5, _), (6, _)]) (.cons rfl (.cons rfl (.cons rfl (.cons rfl (.cons rfl (.cons rfl .nil)))))) ?_
                          refine wc_condD rfl (fun h18 => ?_) (fun h18 => ?_)
                          · skip
                            exact absurd h18 (by omega)
                          · skip
                            refine wc_skip ?_
                            refine qs_block_normal ?_
                            refine qs_seq ?_
                            refine wc_region ?_
                            refine wl_move rfl rfl ?_
                            refine wl_add rfl rfl (by omega) (by omega) rfl ?_
                            refine wl_assign rfl rfl ?_
                            refine wl_nil ?_
                            exact qs_round (L1 := [(0, _), (3, _), (4, _), (5, _), (6, intV ((i + 1 : Nat) : Int))]) (.cons rfl (.cons rfl (.cons rfl (.cons rfl (.cons rfl .nil))))) (k1 := l.length - (i + 1)) (by omega) ⟨i + 1, _, _, rfl, rfl, hS15, by omega, hA⟩
          · skip
            exact absurd h9 (by omega)
        · skip
          refine ⟨_, rfl, ?_⟩
          replace hS8 := hS8.join rfl; dsimp only [List.dropLast, List.cons_append, List.nil_append] at hS8; clear hC8
          clear hS5
          refine wl_assign rfl rfl ?_
          refine wl_nil ?_
          refine qs_seq ?_
          refine wc_sub (L' := [(8, _), (7, _), (0, _), (3, _), (4, _), (5, _), (6, _)]) (.cons rfl (.cons rfl (.cons rfl (.cons rfl (.cons rfl (.cons rfl (.cons rfl .nil))))))) ?_
          refine wc_seq ?_
          refine wc_seq ?_
          refine wc_region ?_
          refine wl_move rfl rfl ?_
          refine wl_lss rfl rfl rfl ?_
          refine wl_move rfl rfl ?_
          refine wl_splitD 47 rfl (fun h19 => ?_) (fun h19 => ?_)
          · skip
            exact absurd h19 (by omega)
          · skip
            refine wl_unwanted rfl rfl (decide_eq_false h19) rfl ?_
            refine wl_unwanted rfl rfl (decide_eq_false h19) rfl ?_
            refine wl_pickF rfl (decide_eq_false h19) rfl rfl ?_
            refine wl_move rfl rfl ?_
            refine wl_guard rfl rfl rfl ?_
            refine wl_move rfl rfl ?_
            refine wl_guard rfl rfl rfl ?_
            refine wl_geq rfl rfl rfl ?_
            refine wl_guard rfl rfl rfl ?_
            refine wl_move rfl rfl ?_
            refine wl_splitD 54 rfl (fun h20 => ?_) (fun h20 => ?_)
            · skip
              refine wl_guard rfl rfl (decide_eq_true h20) ?_
              refine wl_move rfl rfl ?_
              refine wl_guard rfl rfl (decide_eq_true h20) ?_
              refine wl_eql rfl rfl rfl ?_
              refine wl_guard rfl rfl (decide_eq_true h20) ?_
              refine wl_move rfl rfl ?_
              refine wl_guard rfl rfl (decide_eq_true h20) ?_
              refine wl_move rfl rfl ?_
              refine wl_guard rfl rfl (decide_eq_true h20) ?_
              refine wl_sub' rfl rfl (by omega) (by omega) rfl ?_
              refine wl_guard rfl rfl (decide_eq_true h20) ?_
              refine wl_gtr rfl rfl rfl ?_
              refine wl_guard rfl rfl (decide_eq_true h20) ?_
              refine wl_neqB Tryd.underlying4 rfl rfl rfl ?_
              refine wl_guard rfl rfl rfl ?_
              refine wl_pickT rfl (decide_eq_true h20) rfl rfl ?_
              refine wl_pickF rfl rfl rfl rfl ?_
              refine wl_move rfl rfl ?_
              refine wl_split 64 rfl (fun h21 => ?_) (fun h21 => ?_)
              · skip
                simp at h21; omega
              · skip
                refine wl_guard rfl rfl h21 ?_
                refine wl_move rfl rfl ?_
                refine wl_guard rfl rfl h21 ?_
                refine wl_geq rfl rfl rfl ?_
                refine wl_guard rfl rfl h21 ?_
                refine wl_move rfl rfl ?_
                refine wl_splitD 67 rfl (fun h22 => ?_) (fun h22 => ?_)
                · skip
                  refine wl_guard rfl rfl (decide_eq_true h22) ?_
                  refine wl_move rfl rfl ?_
                  refine wl_guard rfl rfl (decide_eq_true h22) ?_
                  refine wl_neq rfl rfl rfl ?_
                  refine wl_guard rfl rfl h21 ?_
                  refine wl_pickT rfl (decide_eq_true h22) rfl rfl ?_
                  refine wl_guard rfl rfl h21 ?_
                  refine wl_move rfl rfl ?_
                  refine wl_splitD 71 rfl (fun h23 => ?_) (fun h23 => ?_)
                  · skip
                    refine wl_guard rfl rfl (decide_eq_true h23) ?_
                    refine wl_move rfl rfl ?_
                    refine wl_guard rfl rfl (decide_eq_true h23) ?_
                    refine wl_neq rfl rfl rfl ?_
                    refine wl_guard rfl rfl h21 ?_
                    refine wl_pickT rfl (decide_eq_true h23) rfl rfl ?_
                    refine wl_pickF rfl h21 rfl rfl ?_
                    refine wl_nil ?_
                    refine qs_seq ?_
                    refine wc_sub (L' := [(75, _), (8, _), (7, _), (0, _), (3, _), (4, _), (5, _), (6, _)]) (.cons rfl (.cons rfl (.cons rfl (.cons rfl (.cons rfl (.cons rfl (.cons rfl (.cons rfl .nil)))))))) ?_
                    refine wc_condD rfl (fun h24 => ?_) (fun h24 => ?_)
                    · skip
                      exact absurd h24 (by omega)
                    · skip
                      refine wc_skip ?_
                      refine qs_seq ?_
                      refine wc_seq ?_
                      refine wc_region ?_
                      refine wl_move rfl rfl ?_
                      refine wl_eql rfl rfl rfl ?_
                      refine wl_nil ?_
                      refine qs_seq ?_
                      refine wc_condD rfl (fun h25 => ?_) (fun h25 => ?_)
                      · skip
                        exact absurd h25 (by omega)
                      · skip
                        refine wc_skip ?_
                        refine qs_seq ?_
                        refine wc_seq ?_
                        refine wc_seq ?_
                        obtain ⟨_, _, hez, hc2⟩ := (hL.sat hS8 1 rfl).get ho; cases hez
                        refine wc_region ?_
                        refine wl_move rfl rfl ?_
                        refine wl_move rfl rfl ?_
                        refine wl_indexAddr i rfl rfl (by first | rfl | omega) (by omega) es_44 rfl ?_
                        refine wl_fieldAddr rfl fo_47_0 rfl ?_
                        refine wl_load rfl ag_3 (hc2 0 _ rfl) rfl ?_
                        refine wl_mask 2 rfl rfl rfl rfl (q := 4) rfl rfl ?_
                        refine wl_eql rfl rfl rfl ?_
                        refine wl_nil ?_
                        refine qs_seq ?_
                        refine wc_sub (L' := [(87, _), (7, _), (0, _), (3, _), (4, _), (5, _), (6, _)]) (.cons rfl (.cons rfl (.cons rfl (.cons rfl (.cons rfl (.cons rfl (.cons rfl .nil))))))) ?_
                        refine wc_condD rfl (fun h26 => ?_) (fun h26 => ?_)
                        · skip
                          exact absurd h26 (by omega)
                        · skip
                          refine wc_skip ?_
                          refine qs_seq ?_
                          refine wc_seq ?_
                          refine wc_region ?_
                          refine wl_move rfl rfl ?_
                          refine wl_makeIface nif_26 rfl rfl ?_
                          have hC27 := hS8.split [0] [true, false] rfl; dsimp only [selF, pickA, nthA, List.cons_append, List.nil_append] at hC27
                          refine wl_call cal_30 rfl (used3 hC27 (hG.starL 0 rfl) hA) rfl ?_
                          rintro e w27 ⟨_, rfl, rfl, hS27⟩; refine ⟨_, rfl, ?_⟩
                          replace hS27 := hS27.join rfl; dsimp only [List.dropLast, List.cons_append, List.nil_append] at hS27; clear hC27
                          clear hS8
                          have hlo := hA.lo
                          have hhi := hA.hi
                          refine wl_move rfl rfl ?_
                          refine wl_neq rfl rfl rfl ?_
                          refine wl_move rfl rfl ?_
                          refine wl_splitD 104 rfl (fun h28 => ?_) (fun h28 => ?_)
                          · skip
                            exact absurd h28 (by omega)
                          · skip
                            refine wl_guard rfl rfl (decide_eq_false h28) ?_
                            refine wl_move rfl rfl ?_
                            refine wl_guard rfl rfl (decide_eq_false h28) ?_
                            refine wl_gtr rfl rfl rfl ?_
                            refine wl_pickF rfl (decide_eq_false h28) rfl rfl ?_
                            refine wl_move rfl rfl ?_
                            refine wl_splitD 108 rfl (fun h29 => ?_) (fun h29 => ?_)
                            · skip
                              exact absurd h29 (by omega)
                            · skip
                              refine wl_guard rfl rfl (decide_eq_false h29) ?_
                              refine wl_move rfl rfl ?_
                              refine wl_guard rfl rfl (decide_eq_false h29) ?_
                              refine wl_lss rfl rfl rfl ?_
                              refine wl_pickF rfl (decide_eq_false h29) rfl rfl ?_
                              refine wl_nil ?_
                              refine qs_seq ?_
                              refine wc_sub (L' := [(111, _), (0, _), (3, _), (4, _), (5, _), (6, _)]) (.cons rfl (.cons rfl (.cons rfl (.cons rfl (.cons rfl (.cons rfl .nil)))))) ?_
                              refine wc_condD rfl (fun h30 => ?_) (fun h30 => ?_)
                              · skip
                                exact absurd h30 (by omega)
                              · skip
                                refine wc_skip ?_
                                refine qs_block_normal ?_
                                refine qs_seq ?_
                                refine wc_region ?_
                                refine wl_move rfl rfl ?_
                                refine wl_add rfl rfl (by omega) (by omega) rfl ?_
                                refine wl_assign rfl rfl ?_
                                refine wl_nil ?_
                                exact qs_round (L1 := [(0, _), (3, _), (4, _), (5, _), (6, intV ((i + 1 : Nat) : Int))]) (.cons rfl (.cons rfl (.cons rfl (.cons rfl (.cons rfl .nil))))) (k1 := l.length - (i + 1)) (by omega) ⟨i + 1, _, _, rfl, rfl, hS27, by omega, hA⟩
                  · skip
                    exact absurd h23 (by omega)
                · skip
                  exact absurd h22 (by omega)
            · skip
              exact absurd h20 (by omega)
        · skip
          refine ⟨_, rfl, ?_⟩
          replace hS8 := hS8.join rfl; dsimp only [List.dropLast, List.cons_append, List.nil_append] at hS8; clear hC8
          clear hS5
          refine wl_assign rfl rfl ?_
          refine wl_nil ?_
          refine qs_seq ?_
          refine wc_sub (L' := [(8, _), (7, _), (0, _), (3, _), (4, _), (5, _), (6, _)]) (.cons rfl (.cons rfl (.cons rfl (.cons rfl (.cons rfl (.cons rfl (.cons rfl .nil))))))) ?_
          refine wc_seq ?_
          refine wc_seq ?_
          refine wc_region ?_
          refine wl_move rfl rfl ?_
          refine wl_lss rfl rfl rfl ?_
          refine wl_move rfl rfl ?_
          refine wl_splitD 47 rfl (fun h31 => ?_) (fun h31 => ?_)
          · skip
            exact absurd h31 (by omega)
          · skip
            refine wl_unwanted rfl rfl (decide_eq_false h31) rfl ?_
            refine wl_unwanted rfl rfl (decide_eq_false h31) rfl ?_
            refine wl_pickF rfl (decide_eq_false h31) rfl rfl ?_
            refine wl_move rfl rfl ?_
            refine wl_guard rfl rfl rfl ?_
            refine wl_move rfl rfl ?_
            refine wl_guard rfl rfl rfl ?_
            refine wl_geq rfl rfl rfl ?_
            refine wl_guard rfl rfl rfl ?_
            refine wl_move rfl rfl ?_
            refine wl_splitD 54 rfl (fun h32 => ?_) (fun h32 => ?_)
            · skip
              refine wl_guard rfl rfl (decide_eq_true h32) ?_
              refine wl_move rfl rfl ?_
              refine wl_guard rfl rfl (decide_eq_true h32) ?_
              refine wl_eql rfl rfl rfl ?_
              refine wl_guard rfl rfl (decide_eq_true h32) ?_
              refine wl_move rfl rfl ?_
              refine wl_guard rfl rfl (decide_eq_true h32) ?_
              refine wl_move rfl rfl ?_
              refine wl_guard rfl rfl (decide_eq_true h32) ?_
              refine wl_sub' rfl rfl (by omega) (by omega) rfl ?_
              refine wl_guard rfl rfl (decide_eq_true h32) ?_
              refine wl_gtr rfl rfl rfl ?_
              refine wl_guard rfl rfl (decide_eq_true h32) ?_
              refine wl_neqB Tryd.underlying4 rfl rfl rfl ?_
              refine wl_guard rfl rfl rfl ?_
              refine wl_pickT rfl (decide_eq_true h32) rfl rfl ?_
              refine wl_pickF rfl rfl rfl rfl ?_
              refine wl_move rfl rfl ?_
              refine wl_split 64 rfl (fun h33 => ?_) (fun h33 => ?_)
              · skip
                simp at h33; omega
              · skip
                refine wl_guard rfl rfl h33 ?_
                refine wl_move rfl rfl ?_
                refine wl_guard rfl rfl h33 ?_
                refine wl_geq rfl rfl rfl ?_
                refine wl_guard rfl rfl h33 ?_
                refine wl_move rfl rfl ?_
                refine wl_splitD 67 rfl (fun h34 => ?_) (fun h34 => ?_)
                · skip
                  refine wl_guard rfl rfl (decide_eq_true h34) ?_
                  refine wl_move rfl rfl ?_
                  refine wl_guard rfl rfl (decide_eq_true h34) ?_
                  refine wl_neq rfl rfl rfl ?_
                  refine wl_guard rfl rfl h33 ?_
                  refine wl_pickT rfl (decide_eq_true h34) rfl rfl ?_
                  refine wl_guard rfl rfl h33 ?_
                  refine wl_move rfl rfl ?_
                  refine wl_splitD 71 rfl (fun h35 => ?_) (fun h35 => ?_)
                  · skip
                    exact absurd h35 (by omega)
                  · skip
                    refine wl_unwanted rfl rfl (decide_eq_false h35) rfl ?_
                    refine wl_unwanted rfl rfl (decide_eq_false h35) rfl ?_
                    refine wl_guard rfl rfl h33 ?_
                    refine wl_pickF rfl (decide_eq_false h35) rfl rfl ?_
                    refine wl_pickF rfl h33 rfl rfl ?_
                    refine wl_nil ?_
                    refine qs_seq ?_
                    refine wc_sub (L' := [(75, _), (8, _), (7, _), (0, _), (3, _), (4, _), (5, _), (6, _)]) (.cons rfl (.cons rfl (.cons rfl (.cons rfl (.cons rfl (.cons rfl (.cons rfl (.cons rfl .nil)))))))) ?_
                    refine wc_condF rfl ?_
                    refine wc_skip ?_
                    refine qs_seq ?_
                    refine wc_seq ?_
                    refine wc_region ?_
                    refine wl_move rfl rfl ?_
                    refine wl_eql rfl rfl rfl ?_
                    refine wl_nil ?_
                    refine qs_seq ?_
                    refine wc_condD rfl (fun h36 => ?_) (fun h36 => ?_)
                    · skip
                      refine wc_region ?_
                      refine wl_move rfl rfl ?_
                      refine wl_move rfl rfl ?_
                      refine wl_add rfl rfl (by omega) (by omega) rfl ?_
                      refine wl_assign rfl rfl ?_
                      refine wl_nil ?_
                      refine qs_seq ?_
                      refine wc_sub (L' := [(5, _), (7, _), (0, _), (3, _), (4, _), (6, _)]) (.cons rfl (.cons rfl (.cons rfl (.cons rfl (.cons rfl (.cons rfl .nil)))))) ?_
                      refine wc_seq ?_
                      refine wc_seq ?_
                      obtain ⟨_, _, hez, hc2⟩ := (hL.sat hS8 1 rfl).get ho; cases hez
                      refine wc_region ?_
                      refine wl_move rfl rfl ?_
                      refine wl_move rfl rfl ?_
                      refine wl_indexAddr i rfl rfl (by first | rfl | omega) (by omega) es_44 rfl ?_
                      refine wl_fieldAddr rfl fo_47_0 rfl ?_
                      refine wl_load rfl ag_3 (hc2 0 _ rfl) rfl ?_
                      refine wl_mask 2 rfl rfl rfl rfl (q := 4) rfl rfl ?_
                      refine wl_eql rfl rfl rfl ?_
                      refine wl_nil ?_
                      refine qs_seq ?_
                      refine wc_sub (L' := [(87, _), (5, _), (7, _), (0, _), (3, _), (4, _), (6, _)]) (.cons rfl (.cons rfl (.cons rfl (.cons rfl (.cons rfl (.cons rfl (.cons rfl .nil))))))) ?_
                      refine wc_condD rfl (fun h37 => ?_) (fun h37 => ?_)
                      · skip
                        exact absurd h37 (by omega)
                      · skip
                        refine wc_skip ?_
                        refine qs_seq ?_
                        refine wc_seq ?_
                        refine wc_region ?_
                        refine wl_move rfl rfl ?_
                        refine wl_makeIface nif_26 rfl rfl ?_
                        have hC38 := hS8.split [0] [true, false] rfl; dsimp only [selF, pickA, nthA, List.cons_append, List.nil_append] at hC38
                        refine wl_call cal_30 rfl (used3 hC38 (hG.starL 0 rfl) hA2) rfl ?_
                        rintro e w38 ⟨_, rfl, rfl, hS38⟩; refine ⟨_, rfl, ?_⟩
                        replace hS38 := hS38.join rfl; dsimp only [List.dropLast, List.cons_append, List.nil_append] at hS38; clear hC38
                        clear hS8
                        have hlo := hA2.lo
                        have hhi := hA2.hi
                        refine wl_move rfl rfl ?_
                        refine wl_neq rfl rfl rfl ?_
                        refine wl_move rfl rfl ?_
                        refine wl_splitD 104 rfl (fun h39 => ?_) (fun h39 => ?_)
                        · skip
                          exact absurd h39 (by omega)
                        · skip
                          refine wl_guard rfl rfl (decide_eq_false h39) ?_
                          refine wl_move rfl rfl ?_
                          refine wl_guard rfl rfl (decide_eq_false h39) ?_
                          refine wl_gtr rfl rfl rfl ?_
                          refine wl_pickF rfl (decide_eq_false h39) rfl rfl ?_
                          refine wl_move rfl rfl ?_
                          refine wl_splitD 108 rfl (fun h40 => ?_) (fun h40 => ?_)
                          · skip
                            exact absurd h40 (by omega)
                          · skip
                            refine wl_guard rfl rfl (decide_eq_false h40) ?_
                            refine wl_move rfl rfl ?_
                            refine wl_guard rfl rfl (decide_eq_false h40) ?_
                            refine wl_lss rfl rfl rfl ?_
                            refine wl_pickF rfl (decide_eq_false h40) rfl rfl ?_
                            refine wl_nil ?_
                            refine qs_seq ?_
                            refine wc_sub (L' := [(111, _), (5, _), (0, _), (3, _), (4, _), (6, _)]) (.cons rfl (.cons rfl (.cons rfl (.cons rfl (.cons rfl (.cons rfl .nil)))))) ?_
                            refine wc_condD rfl (fun h41 => ?_) (fun h41 => ?_)
                            · skip
                              exact absurd h41 (by omega)
                            · skip
                              refine wc_skip ?_
                              refine qs_block_normal ?_
                              refine qs_seq ?_
                              refine wc_region ?_
                              refine wl_move rfl rfl ?_
                              refine wl_add rfl rfl (by omega) (by omega) rfl ?_
                              refine wl_assign rfl rfl ?_
                              refine wl_nil ?_
                              exact qs_round (L1 := [(0, _), (3, _), (4, _), (5, _), (6, intV ((i + 1 : Nat) : Int))]) (.cons rfl (.cons rfl (.cons rfl (.cons rfl (.cons rfl .nil))))) (k1 := l.length - (i + 1)) (by omega) ⟨i + 1, _, _, rfl, rfl, hS38, by omega, hA2⟩
                    · skip
                      exact absurd h36 (by omega)
                · skip
                  exact absurd h34 (by omega)
            · skip
              exact absurd h32 (by omega)
      · skip
        refine wc_skip ?_
        refine qs_seq ?_
        refine wc_seq ?_
        refine wc_seq ?_
        obtain ⟨_, _, hez, hc2⟩ := (hL.sat hS5 1 rfl).get ho; cases hez
        refine wc_region ?_
        refine wl_move rfl rfl ?_
        refine wl_move rfl rfl ?_
        refine wl_indexAddr i rfl rfl (by first | rfl | omega) (by omega) es_44 rfl ?_
        refine wl_fieldAddr rfl fo_47_0 rfl ?_
        refine wl_load rfl ag_3 (hc2 0 _ rfl) rfl ?_
        refine wl_mask 2 rfl rfl rfl rfl (q := 4) rfl rfl ?_
        refine wl_eql rfl rfl rfl ?_
        refine wl_nil ?_
        refine qs_seq ?_
        refine wc_sub (L' := [(87, _), (7, _), (0, _), (3, _), (4, _), (5, _), (6, _)]) (.cons rfl (.cons rfl (.cons rfl (.cons rfl (.cons rfl (.cons rfl (.cons rfl .nil))))))) ?_
        refine wc_condD rfl (fun h42 => ?_) (fun h42 => ?_)
        · skip
          refine wc_seq ?_
          refine wc_seq ?_
          refine wc_region ?_
          refine wl_move rfl rfl ?_
          refine wl_move rfl rfl ?_
          refine wl_gtr rfl rfl rfl ?_
          refine wl_nil ?_
          refine qs_seq ?_
          refine wc_condD rfl (fun h43 => ?_) (fun h43 => ?_)
          · skip
            refine wc_exit ?_
            refine qs_then_exit ?_
            refine qs_then_exit ?_
            refine qs_block_exit ?_
            refine qs_seq ?_
            refine wc_region ?_
            refine wl_move rfl rfl ?_
            refine wl_add rfl rfl (by omega) (by omega) rfl ?_
            refine wl_assign rfl rfl ?_
            refine wl_nil ?_
            exact qs_round (L1 := [(0, _), (3, _), (4, _), (5, _), (6, intV ((i + 1 : Nat) : Int))]) (.cons rfl (.cons rfl (.cons rfl (.cons rfl (.cons rfl .nil))))) (k1 := l.length - (i + 1)) (by omega) ⟨i + 1, _, _, rfl, rfl, hS5, by omega, hA⟩
          · skip
            refine wc_skip ?_
            refine qs_seq ?_
            refine wc_seq ?_
            refine wc_region ?_
            refine wl_move rfl rfl ?_
            refine wl_makeIface nif_26 rfl rfl ?_
            refine wl_move rfl rfl ?_
            have hC44 := hS5.split [0] [true, false] rfl; dsimp only [selF, pickA, nthA, List.cons_append, List.nil_append] at hC44
            refine wl_call cal_29 rfl (release3 hC44 (hG.starL 0 rfl) hA o.n) rfl ?_
            rintro e w44 ⟨_, rfl, rfl, W3, hA3, hS44⟩; refine ⟨_, rfl, ?_⟩
            replace hS44 := hS44.join rfl; dsimp only [List.dropLast, List.cons_append, List.nil_append] at hS44; clear hC44
            clear hS5
            rw [show max (min o.n u) 0 = max o.n 0 by omega] at hA3
            refine wl_nil ?_
            refine qs_seq ?_
            refine wc_sub (L' := [(7, _), (0, _), (3, _), (4, _), (5, _), (6, _)]) (.cons rfl (.cons rfl (.cons rfl (.cons rfl (.cons rfl (.cons rfl .nil)))))) ?_
            refine wc_region ?_
            refine wl_move rfl rfl ?_
            refine wl_move rfl rfl ?_
            refine wl_maxI rfl rfl rfl ?_
            refine wl_sub' rfl rfl (by omega) (by omega) rfl ?_
            refine wl_assign rfl rfl ?_
            refine wl_nil ?_
            refine qs_seq ?_
            refine wc_seq ?_
            refine wc_region ?_
            refine wl_move rfl rfl ?_
            refine wl_makeIface nif_26 rfl rfl ?_
            have hC45 := hS44.split [0] [true, false] rfl; dsimp only [selF, pickA, nthA, List.cons_append, List.nil_append] at hC45
            refine wl_call cal_30 rfl (used3 hC45 (hG.starL 0 rfl) hA3) rfl ?_
            rintro e w45 ⟨_, rfl, rfl, hS45⟩; refine ⟨_, rfl, ?_⟩
            replace hS45 := hS45.join rfl; dsimp only [List.dropLast, List.cons_append, List.nil_append] at hS45; clear hC45
            clear hS44
            have hlo := hA3.lo
            have hhi := hA3.hi
            refine wl_move rfl rfl ?_
            refine wl_neq rfl rfl rfl ?_
            refine wl_move rfl rfl ?_
            refine wl_splitD 104 rfl (fun h46 => ?_) (fun h46 => ?_)
            · skip
              exact absurd h46 (by omega)
            · skip
              refine wl_guard rfl rfl (decide_eq_false h46) ?_
              refine wl_move rfl rfl ?_
              refine wl_guard rfl rfl (decide_eq_false h46) ?_
              refine wl_gtr rfl rfl rfl ?_
              refine wl_pickF rfl (decide_eq_false h46) rfl rfl ?_
              refine wl_move rfl rfl ?_
              refine wl_splitD 108 rfl (fun h47 => ?_) (fun h47 => ?_)
              · skip
                exact absurd h47 (by omega)
              · skip
                refine wl_guard rfl rfl (decide_eq_false h47) ?_
                refine wl_move rfl rfl ?_
                refine wl_guard rfl rfl (decide_eq_false h47) ?_
                refine wl_lss rfl rfl rfl ?_
                refine wl_pickF rfl (decide_eq_false h47) rfl rfl ?_
                refine wl_nil ?_
                refine qs_seq ?_
                refine wc_sub (L' := [(111, _), (5, _), (0, _), (3, _), (4, _), (6, _)]) (.cons rfl (.cons rfl (.cons rfl (.cons rfl (.cons rfl (.cons rfl .nil)))))) ?_
                refine wc_condD rfl (fun h48 => ?_) (fun h48 => ?_)
                · skip
                  exact absurd h48 (by omega)
                · skip
                  refine wc_skip ?_
                  refine qs_block_normal ?_
                  refine qs_seq ?_
                  refine wc_region ?_
                  refine wl_move rfl rfl ?_
                  refine wl_add rfl rfl (by omega) (by omega) rfl ?_
                  refine wl_assign rfl rfl ?_
                  refine wl_nil ?_
                  exact qs_round (L1 := [(0, _), (3, _), (4, _), (5, _), (6, intV ((i + 1 : Nat) : Int))]) (.cons rfl (.cons rfl (.cons rfl (.cons rfl (.cons rfl .nil))))) (k1 := l.length - (i + 1)) (by omega) ⟨i + 1, _, _, rfl, rfl, hS45, by omega, hA3⟩
        · skip
          refine wc_skip ?_
          refine qs_seq ?_
          refine wc_seq ?_
          refine wc_region ?_
          refine wl_move rfl rfl ?_
          refine wl_makeIface nif_26 rfl rfl ?_
          have hC49 := hS5.split [0] [true, false] rfl; dsimp only [selF, pickA, nthA, List.cons_append, List.nil_append] at hC49
          refine wl_call cal_30 rfl (used3 hC49 (hG.starL 0 rfl) hA) rfl ?_
          rintro e w49 ⟨_, rfl, rfl, hS49⟩; refine ⟨_, rfl, ?_⟩
          replace hS49 := hS49.join rfl; dsimp only [List.dropLast, List.cons_append, List.nil_append] at hS49; clear hC49
          clear hS5
          have hlo := hA.lo
          have hhi := hA.hi
          refine wl_move rfl rfl ?_
          refine wl_neq rfl rfl rfl ?_
          refine wl_move rfl rfl ?_
          refine wl_splitD 104 rfl (fun h50 => ?_) (fun h50 => ?_)
          · skip
            exact absurd h50 (by omega)
          · skip
            refine wl_guard rfl rfl (decide_eq_false h50) ?_
            refine wl_move rfl rfl ?_
            refine wl_guard rfl rfl (decide_eq_false h50) ?_
            refine wl_gtr rfl rfl rfl ?_
            refine wl_pickF rfl (decide_eq_false h50) rfl rfl ?_
            refine wl_move rfl rfl ?_
            refine wl_splitD 108 rfl (fun h51 => ?_) (fun h51 => ?_)
            · skip
              exact absurd h51 (by omega)
            · skip
              refine wl_guard rfl rfl (decide_eq_false h51) ?_
              refine wl_move rfl rfl ?_
              refine wl_guard rfl rfl (decide_eq_false h51) ?_
              refine wl_lss rfl rfl rfl ?_
              refine wl_pickF rfl (decide_eq_false h51) rfl rfl ?_
              refine wl_nil ?_
              refine qs_seq ?_
              refine wc_sub (L' := [(111, _), (0, _), (3, _), (4, _), (5, _), (6, _)]) (.cons rfl (.cons rfl (.cons rfl (.cons rfl (.cons rfl (.cons rfl .nil)))))) ?_
              refine wc_condD rfl (fun h52 => ?_) (fun h52 => ?_)
              · skip
                exact absurd h52 (by omega)
              · skip
                refine wc_skip ?_
                refine qs_block_normal ?_
                refine qs_seq ?_
                refine wc_region ?_
                refine wl_move rfl rfl ?_
                refine wl_add rfl rfl (by omega) (by omega) rfl ?_
                refine wl_assign rfl rfl ?_
                refine wl_nil ?_
                exact qs_round (L1 := [(0, _), (3, _), (4, _), (5, _), (6, intV ((i + 1 : Nat) : Int))]) (.cons rfl (.cons rfl (.cons rfl (.cons rfl (.cons rfl .nil))))) (k1 := l.length - (i + 1)) (by omega) ⟨i + 1, _, _, rfl, rfl, hS49, by omega, hA⟩
    · skip
      refine wc_exit ?_
      refine qs_then_exit ?_
      refine qs_then_exit ?_
      refine qs_block_exit ?_
      refine qs_seq ?_
      refine wc_seq ?_
      refine wc_region ?_
      refine wl_move rfl rfl ?_
      refine wl_assign rfl rfl ?_
      refine wl_nil ?_
      refine qs_seq ?_
      refine wc_sub (L' := [(2, _)]) (.cons rfl .nil) ?_
      refine wc_ret ?_
      refine fin1 (.inr rfl) rfl rfl ?_
      exact ⟨_, rfl, rfl, hS5.pick [1] rfl⟩

end Go.Proofs.YtieelilkkpcmdaaDoor
