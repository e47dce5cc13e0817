/- laws of world: WorldTells -/
import Derived.Test.YtieelilkkpcmdaaGreatDoorRy1
namespace Go.Proofs.YtieelilkkpcmdaaGreatDoor
open Go.RowKit M
set_option linter.unusedVariables false
set_option maxRecDepth 100000 in
set_option maxHeartbeats 1000000 in
theorem tells_law {w : World} {F : Th} (hS : Sat w [F]) {lv : Value} {l : List OpD} (hL : Ent F (RdL opC lv l)) (nm : Bs) (at_ cn : Int) (s : Bs) :
    Calls Tryz.prog 3 #[lv, strV nm, intV at_, intV cn, strV s] w (Ret fun v w' => v = .bool true ∧ Sat w' [F]) := by
  obtain ⟨ao, cap, rfl, hmax⟩ := (hL.sat hS 0 rfl).shape
  refine calls_enter Tryz.func3 rfl Tryz.ntmps3 rfl ?_
  refine wc_seq ?_
  refine wc_region ?_
  refine wl_assign rfl rfl ?_
  refine wl_nil ?_
  refine qs_seq ?_
  refine wc_seq ?_
  refine wc_region ?_
  have hC1 := hS.split [] [false] rfl; dsimp only [selF, pickA, nthA, List.cons_append, List.nil_append] at hC1
  refine wl_call cal_5 rfl (small_sp hC1) rfl ?_
  rintro e w1 ⟨_, rfl, rfl, hS1⟩; refine ⟨_, rfl, ?_⟩
  replace hS1 := hS1.join rfl; dsimp only [List.dropLast, List.cons_append, List.nil_append] at hS1; clear hC1
  refine wl_assign rfl rfl ?_
  refine wl_nil ?_
  refine qs_seq ?_
  refine wc_seq ?_
  refine wc_region ?_
  refine wl_assign rfl rfl ?_
  refine wl_nil ?_
  refine qs_seq ?_
  refine wc_seq ?_
  refine wc_seq ?_
  refine wc_region ?_
  refine wl_move rfl rfl ?_
  have hC2 := hS1.split [] [false] rfl; dsimp only [selF, pickA, nthA, List.cons_append, List.nil_append] at hC2
  refine wl_call cal_6 rfl (few_sp hC2 (hL.starL 0 rfl) 40) rfl ?_
  rintro e w2 ⟨_, rfl, rfl, hS2⟩; refine ⟨_, rfl, ?_⟩
  replace hS2 := hS2.join rfl; dsimp only [List.dropLast, List.cons_append, List.nil_append] at hS2; clear hC2
  clear hS1
  refine wl_not rfl rfl ?_
  refine wl_move rfl rfl ?_
  refine wl_split 25 rfl (fun h3 => ?_) (fun h3 => ?_)
  · skip
    refine wl_unwanted rfl rfl h3 rfl ?_
    refine wl_unwanted rfl rfl h3 rfl ?_
    refine wl_unwanted rfl rfl h3 rfl ?_
    refine wl_pickT rfl h3 rfl rfl ?_
    refine wl_move rfl rfl ?_
    refine wl_unwanted rfl rfl rfl rfl ?_
    refine wl_unwanted rfl rfl rfl rfl ?_
    refine wl_unwanted rfl rfl rfl rfl ?_
    refine wl_unwanted rfl rfl rfl rfl ?_
    refine wl_pickT rfl rfl rfl rfl ?_
    refine wl_move rfl rfl ?_
    refine wl_unwanted rfl rfl rfl rfl ?_
    refine wl_unwanted rfl rfl rfl rfl ?_
    refine wl_unwanted rfl rfl rfl rfl ?_
    refine wl_pickT rfl rfl rfl rfl ?_
    refine wl_move rfl rfl ?_
    refine wl_unwanted rfl rfl rfl rfl ?_
    refine wl_unwanted rfl rfl rfl rfl ?_
    refine wl_pickT rfl rfl rfl rfl ?_
    refine wl_move rfl rfl ?_
    refine wl_unwanted rfl rfl rfl rfl ?_
    refine wl_unwanted rfl rfl rfl rfl ?_
    refine wl_unwanted rfl rfl rfl rfl ?_
    refine wl_pickT rfl rfl rfl rfl ?_
    refine wl_nil ?_
    refine qs_seq ?_
    refine wc_sub (L' := [(49, _), (11, _), (10, _), (0, _), (1, _), (2, _), (3, _), (4, _)]) (.cons rfl (.cons rfl (.cons rfl (.cons rfl (.cons rfl (.cons rfl (.cons rfl (.cons rfl .nil)))))))) ?_
    refine wc_condT rfl ?_
    refine wc_seq ?_
    refine wc_region ?_
    refine wl_move rfl rfl ?_
    refine wl_assign rfl rfl ?_
    refine wl_nil ?_
    refine qs_seq ?_
    refine wc_ret ?_
    refine qs_then_ret ?_
    refine fin1 (.inr rfl) rfl rfl ?_
    exact ⟨_, rfl, by first | rfl | simp, hS2.pick [0] rfl⟩
  · skip
    have hfew : fewB l 40 = true := by simpa using h3
    have hall : l.all fitsB = true := by simp only [fewB, Bool.and_eq_true] at hfew; exact hfew.1
    have hlen : (l.length : Int) ≤ 40 := by simp only [fewB, Bool.and_eq_true, decide_eq_true_eq] at hfew; exact hfew.2
    refine wl_guard rfl rfl h3 ?_
    refine wl_move rfl rfl ?_
    refine wl_guard rfl rfl h3 ?_
    refine wl_lenS Tryz.underlying9 rfl rfl ?_
    refine wl_guard rfl rfl h3 ?_
    refine wl_gtr rfl rfl rfl ?_
    refine wl_pickF rfl h3 rfl rfl ?_
    refine wl_move rfl rfl ?_
    refine wl_splitD 30 rfl (fun h4 => ?_) (fun h4 => ?_)
    · skip
      refine wl_unwanted rfl rfl (decide_eq_true h4) rfl ?_
      refine wl_unwanted rfl rfl (decide_eq_true h4) rfl ?_
      refine wl_unwanted rfl rfl (decide_eq_true h4) rfl ?_
      refine wl_unwanted rfl rfl (decide_eq_true h4) rfl ?_
      refine wl_pickT rfl (decide_eq_true h4) rfl rfl ?_
      refine wl_move rfl rfl ?_
      refine wl_unwanted rfl rfl rfl rfl ?_
      refine wl_unwanted rfl rfl rfl rfl ?_
      refine wl_unwanted rfl rfl rfl rfl ?_
      refine wl_pickT rfl rfl rfl rfl ?_
      refine wl_move rfl rfl ?_
      refine wl_unwanted rfl rfl rfl rfl ?_
      refine wl_unwanted rfl rfl rfl rfl ?_
      refine wl_pickT rfl rfl rfl rfl ?_
      refine wl_move rfl rfl ?_
      refine wl_unwanted rfl rfl rfl rfl ?_
      refine wl_unwanted rfl rfl rfl rfl ?_
      refine wl_unwanted rfl rfl rfl rfl ?_
      refine wl_pickT rfl rfl rfl rfl ?_
      refine wl_nil ?_
      refine qs_seq ?_
      refine wc_sub (L' := [(49, _), (11, _), (10, _), (0, _), (1, _), (2, _), (3, _), (4, _)]) (.cons rfl (.cons rfl (.cons rfl (.cons rfl (.cons rfl (.cons rfl (.cons rfl (.cons rfl .nil)))))))) ?_
      refine wc_condT rfl ?_
      refine wc_seq ?_
      refine wc_region ?_
      refine wl_move rfl rfl ?_
      refine wl_assign rfl rfl ?_
      refine wl_nil ?_
      refine qs_seq ?_
      refine wc_ret ?_
      refine qs_then_ret ?_
      refine fin1 (.inr rfl) rfl rfl ?_
      exact ⟨_, rfl, by first | rfl | simp, hS2.pick [0] rfl⟩
    · skip
      refine wl_guard rfl rfl (decide_eq_false h4) ?_
      refine wl_move rfl rfl ?_
      refine wl_guard rfl rfl (decide_eq_false h4) ?_
      refine wl_move rfl rfl ?_
      refine wl_guard rfl rfl (decide_eq_false h4) ?_
      refine wl_neg rfl (by omega) (by omega) rfl ?_
      refine wl_guard rfl rfl (decide_eq_false h4) ?_
      refine wl_lss rfl rfl rfl ?_
      refine wl_pickF rfl (decide_eq_false h4) rfl rfl ?_
      refine wl_move rfl rfl ?_
      refine wl_splitD 36 rfl (fun h5 => ?_) (fun h5 => ?_)
      · skip
        refine wl_unwanted rfl rfl (decide_eq_true h5) rfl ?_
        refine wl_unwanted rfl rfl (decide_eq_true h5) rfl ?_
        refine wl_unwanted rfl rfl (decide_eq_true h5) rfl ?_
        refine wl_pickT rfl (decide_eq_true h5) rfl rfl ?_
        refine wl_move rfl rfl ?_
        refine wl_unwanted rfl rfl rfl rfl ?_
        refine wl_unwanted rfl rfl rfl rfl ?_
        refine wl_pickT rfl rfl rfl rfl ?_
        refine wl_move rfl rfl ?_
        refine wl_unwanted rfl rfl rfl rfl ?_
        refine wl_unwanted rfl rfl rfl rfl ?_
        refine wl_unwanted rfl rfl rfl rfl ?_
        refine wl_pickT rfl rfl rfl rfl ?_
        refine wl_nil ?_
        refine qs_seq ?_
        refine wc_sub (L' := [(49, _), (11, _), (10, _), (0, _), (1, _), (2, _), (3, _), (4, _)]) (.cons rfl (.cons rfl (.cons rfl (.cons rfl (.cons rfl (.cons rfl (.cons rfl (.cons rfl .nil)))))))) ?_
        refine wc_condT rfl ?_
        refine wc_seq ?_
        refine wc_region ?_
        refine wl_move rfl rfl ?_
        refine wl_assign rfl rfl ?_
        refine wl_nil ?_
        refine qs_seq ?_
        refine wc_ret ?_
        refine qs_then_ret ?_
        refine fin1 (.inr rfl) rfl rfl ?_
        exact ⟨_, rfl, by first | rfl | simp, hS2.pick [0] rfl⟩
      · skip
        refine wl_guard rfl rfl (decide_eq_false h5) ?_
        refine wl_move rfl rfl ?_
        refine wl_guard rfl rfl (decide_eq_false h5) ?_
        refine wl_move rfl rfl ?_
        refine wl_guard rfl rfl (decide_eq_false h5) ?_
        refine wl_gtr rfl rfl rfl ?_
        refine wl_pickF rfl (decide_eq_false h5) rfl rfl ?_
        refine wl_move rfl rfl ?_
        refine wl_splitD 41 rfl (fun h6 => ?_) (fun h6 => ?_)
        · skip
          refine wl_unwanted rfl rfl (decide_eq_true h6) rfl ?_
          refine wl_unwanted rfl rfl (decide_eq_true h6) rfl ?_
          refine wl_pickT rfl (decide_eq_true h6) rfl rfl ?_
          refine wl_move rfl rfl ?_
          refine wl_unwanted rfl rfl rfl rfl ?_
          refine wl_unwanted rfl rfl rfl rfl ?_
          refine wl_unwanted rfl rfl rfl rfl ?_
          refine wl_pickT rfl rfl rfl rfl ?_
          refine wl_nil ?_
          refine qs_seq ?_
          refine wc_sub (L' := [(49, _), (11, _), (10, _), (0, _), (1, _), (2, _), (3, _), (4, _)]) (.cons rfl (.cons rfl (.cons rfl (.cons rfl (.cons rfl (.cons rfl (.cons rfl (.cons rfl .nil)))))))) ?_
          refine wc_condT rfl ?_
          refine wc_seq ?_
          refine wc_region ?_
          refine wl_move rfl rfl ?_
          refine wl_assign rfl rfl ?_
          refine wl_nil ?_
          refine qs_seq ?_
          refine wc_ret ?_
          refine qs_then_ret ?_
          refine fin1 (.inr rfl) rfl rfl ?_
          exact ⟨_, rfl, by first | rfl | simp, hS2.pick [0] rfl⟩
        · skip
          refine wl_guard rfl rfl (decide_eq_false h6) ?_
          refine wl_move rfl rfl ?_
          refine wl_guard rfl rfl (decide_eq_false h6) ?_
          refine wl_gtr rfl rfl rfl ?_
          refine wl_pickF rfl (decide_eq_false h6) rfl rfl ?_
          refine wl_move rfl rfl ?_
          refine wl_splitD 45 rfl (fun h7 => ?_) (fun h7 => ?_)
          · skip
            refine wl_unwanted rfl rfl (decide_eq_true h7) rfl ?_
            refine wl_unwanted rfl rfl (decide_eq_true h7) rfl ?_
            refine wl_unwanted rfl rfl (decide_eq_true h7) rfl ?_
            refine wl_pickT rfl (decide_eq_true h7) rfl rfl ?_
            refine wl_nil ?_
            refine qs_seq ?_
            refine wc_sub (L' := [(49, _), (11, _), (10, _), (0, _), (1, _), (2, _), (3, _), (4, _)]) (.cons rfl (.cons rfl (.cons rfl (.cons rfl (.cons rfl (.cons rfl (.cons rfl (.cons rfl .nil)))))))) ?_
            refine wc_condT rfl ?_
            refine wc_seq ?_
            refine wc_region ?_
            refine wl_move rfl rfl ?_
            refine wl_assign rfl rfl ?_
            refine wl_nil ?_
            refine qs_seq ?_
            refine wc_ret ?_
            refine qs_then_ret ?_
            refine fin1 (.inr rfl) rfl rfl ?_
            exact ⟨_, rfl, by first | rfl | simp, hS2.pick [0] rfl⟩
          · skip
            refine wl_guard rfl rfl (decide_eq_false h7) ?_
            refine wl_move rfl rfl ?_
            refine wl_guard rfl rfl (decide_eq_false h7) ?_
            refine wl_lenS Tryz.underlying9 rfl rfl ?_
            refine wl_guard rfl rfl (decide_eq_false h7) ?_
            refine wl_gtr rfl rfl rfl ?_
            refine wl_pickF rfl (decide_eq_false h7) rfl rfl ?_
            refine wl_nil ?_
            refine qs_seq ?_
            refine wc_sub (L' := [(49, _), (11, _), (10, _), (0, _), (1, _), (2, _), (3, _), (4, _)]) (.cons rfl (.cons rfl (.cons rfl (.cons rfl (.cons rfl (.cons rfl (.cons rfl (.cons rfl .nil)))))))) ?_
            refine wc_condD rfl (fun h8 => ?_) (fun h8 => ?_)
            · skip
              refine wc_seq ?_
              refine wc_region ?_
              refine wl_move rfl rfl ?_
              refine wl_assign rfl rfl ?_
              refine wl_nil ?_
              refine qs_seq ?_
              refine wc_ret ?_
              refine qs_then_ret ?_
              refine fin1 (.inr rfl) rfl rfl ?_
              exact ⟨_, rfl, by first | rfl | simp, hS2.pick [0] rfl⟩
            · skip
              refine wc_skip ?_
              refine qs_seq ?_
              refine wc_seq ?_
              refine wc_region ?_
              have hC9 := hS2.split [] [false] rfl; dsimp only [selF, pickA, nthA, List.cons_append, List.nil_append] at hC9
              refine wl_call cal_7 rfl (new_sp hC9) rfl ?_
              rintro e w9 ⟨_, rfl, p, rfl, hS9⟩; refine ⟨_, rfl, ?_⟩
              replace hS9 := hS9.join rfl; dsimp only [List.dropLast, List.cons_append, List.nil_append] at hS9; clear hC9
              clear hS2
              refine wl_assign rfl rfl ?_
              refine wl_nil ?_
              refine qs_seq ?_
              refine wc_seq ?_
              refine wc_region ?_
              refine wl_buildS rfl pl_31_ asz_31 zr_31 rfl rfl ?_
              refine wl_box hS9 rfl rfl rfl ?_
              intro fb wf hSf
              have hSg := ref_new hSf
              clear hS9
              refine wl_assign rfl rfl ?_
              refine wl_nil ?_
              refine qs_seq ?_
              refine wc_sub (L' := [(14, _), (13, _), (11, _), (10, _), (0, _), (1, _), (2, _), (3, _), (4, _)]) (.cons rfl (.cons rfl (.cons rfl (.cons rfl (.cons rfl (.cons rfl (.cons rfl (.cons rfl (.cons rfl .nil))))))))) ?_
              refine wc_seq ?_
              refine wc_seq ?_
              refine wc_region ?_
              refine wl_move rfl rfl ?_
              refine wl_eqlNil Tryz.underlying25 rfl rfl rfl ?_
              refine wl_nil ?_
              refine qs_seq ?_
              refine wc_condF rfl ?_
              refine wc_skip ?_
              refine qs_seq ?_
              refine wc_seq ?_
              refine wc_seq ?_
              refine wc_region ?_
              refine wl_assign rfl rfl ?_
              refine wl_nil ?_
              refine qs_seq ?_
              refine wc_block ?_
              refine wc_loop (fun K0 E0 W0 => ∃ (i : Nat), K0 = l.length - i ∧ E0 = [(0, .slice ao l.length cap), (1, strV nm), (2, intV at_), (3, intV cn), (4, strV s), (11, .bool true), (13, ptrV p 0), (14, ptrV fb 0), (15, intV (i : Int))] ∧ Sat W0 [worldT p (playW (l.take i)), refW fb (playW (l.take i)) i, F] ∧ (i ≤ l.length)) (L0 := [(0, _), (1, _), (2, _), (3, _), (4, _), (11, _), (13, _), (14, _), (15, _)]) (l.length - 0) (.cons rfl (.cons rfl (.cons rfl (.cons rfl (.cons rfl (.cons rfl (.cons rfl (.cons rfl (.cons rfl .nil))))))))) ⟨0, rfl, rfl, hSg.pick [1, 0, 2] rfl, by omega⟩ ?_
              rintro _ _ w10 ⟨i, rfl, rfl, hS10, hi⟩
              have hI := world_pg 0 hS10 rfl
              refine wc_seq ?_
              refine wc_seq ?_
              refine wc_region ?_
              refine wl_move rfl rfl ?_
              refine wl_move rfl rfl ?_
              refine wl_lenL Tryz.underlying22 rfl rfl ?_
              refine wl_lss rfl rfl rfl ?_
              refine wl_nil ?_
              refine qs_seq ?_
              refine wc_sub (L' := [(59, _), (0, _), (1, _), (2, _), (3, _), (4, _), (11, _), (13, _), (14, _), (15, _)]) (.cons rfl (.cons rfl (.cons rfl (.cons rfl (.cons rfl (.cons rfl (.cons rfl (.cons rfl (.cons rfl (.cons rfl .nil)))))))))) ?_
              refine wc_condD rfl (fun h11 => ?_) (fun h11 => ?_)
              · skip
                obtain ⟨o, ho⟩ : ∃ o, l[i]? = some o := ⟨_, List.getElem?_eq_getElem (by omega)⟩
                obtain ⟨b, off, rfl, hc⟩ := (hL.sat hS10 2 rfl).get ho
                have hfo := fit_of (List.all_eq_true.1 hall _ (List.mem_of_getElem? ho))
                have hPi := play_inv hall i (by omega)
                refine wc_skip ?_
                refine qs_seq ?_
                refine wc_seq ?_
                refine wc_block ?_
                refine wc_seq ?_
                refine wc_region ?_
                refine wl_move rfl rfl ?_
                refine wl_move rfl rfl ?_
                refine wl_move rfl rfl ?_
                refine wl_indexAddr i rfl rfl (by first | rfl | omega) (by omega) es_22 rfl ?_
                refine wl_loadAt rfl ag_34 sz_34 (vs := opV o) hc rfl ?_
                have hC12 := hS10.split [0] [true, false, false] rfl; dsimp only [selF, pickA, nthA, List.cons_append, List.nil_append] at hC12
                refine wl_call cal_8 rfl (do_sp hC12 o hfo hPi (by omega)) rfl ?_
                rintro e w12 ⟨_, rfl, rfl, hS12⟩; refine ⟨_, rfl, ?_⟩
                replace hS12 := hS12.join rfl; dsimp only [List.dropLast, List.cons_append, List.nil_append] at hS12; clear hC12
                clear hS10
                refine wl_nil ?_
                refine qs_seq ?_
                refine wc_sub (L' := [(0, _), (1, _), (2, _), (3, _), (4, _), (11, _), (13, _), (14, _), (15, _)]) (.cons rfl (.cons rfl (.cons rfl (.cons rfl (.cons rfl (.cons rfl (.cons rfl (.cons rfl (.cons rfl .nil))))))))) ?_
                refine wc_seq ?_
                obtain ⟨_, _, hez, hc2⟩ := (hL.sat hS12 2 rfl).get ho; cases hez
                refine wc_region ?_
                refine wl_move rfl rfl ?_
                refine wl_move rfl rfl ?_
                refine wl_move rfl rfl ?_
                refine wl_indexAddr i rfl rfl (by first | rfl | omega) (by omega) es_22 rfl ?_
                refine wl_loadAt rfl ag_34 sz_34 (vs := opV o) hc2 rfl ?_
                have hC13 := hS12.split [1] [false, true, false] rfl; dsimp only [selF, pickA, nthA, List.cons_append, List.nil_append] at hC13
                refine wl_call cal_9 rfl (rDo hC13 (by omega) hI o hfo hPi (by omega)) rfl ?_
                rintro e w13 ⟨_, rfl, rfl, hS13⟩; refine ⟨_, rfl, ?_⟩
                replace hS13 := hS13.join rfl; dsimp only [List.dropLast, List.cons_append, List.nil_append] at hS13; clear hC13
                clear hS12
                refine wl_nil ?_
                refine qs_seq ?_
                refine wc_sub (L' := [(0, _), (1, _), (2, _), (3, _), (4, _), (11, _), (13, _), (14, _), (15, _)]) (.cons rfl (.cons rfl (.cons rfl (.cons rfl (.cons rfl (.cons rfl (.cons rfl (.cons rfl (.cons rfl .nil))))))))) ?_
                refine wc_seq ?_
                obtain ⟨_, _, hez, hc3⟩ := (hL.sat hS13 2 rfl).get ho; cases hez
                refine wc_region ?_
                refine wl_move rfl rfl ?_
                refine wl_move rfl rfl ?_
                refine wl_move rfl rfl ?_
                refine wl_move rfl rfl ?_
                refine wl_indexAddr i rfl rfl (by first | rfl | omega) (by omega) es_22 rfl ?_
                refine wl_loadAt rfl ag_34 sz_34 (vs := opV o) hc3 rfl ?_
                have hC14 := hS13.split [1, 0] [true, true, false] rfl; dsimp only [selF, pickA, nthA, List.cons_append, List.nil_append] at hC14
                refine wl_call cal_10 rfl (agree_sp hC14 (by omega) o (hPi.step hfo) (by omega)) rfl ?_
                rintro e w14 ⟨_, rfl, rfl, hS14⟩; refine ⟨_, rfl, ?_⟩
                replace hS14 := hS14.join rfl; dsimp only [List.dropLast, List.cons_append, List.nil_append] at hS14; clear hC14
                clear hS13
                refine wl_not rfl rfl ?_
                refine wl_nil ?_
                refine qs_seq ?_
                refine wc_sub (L' := [(81, _), (0, _), (1, _), (2, _), (3, _), (4, _), (11, _), (13, _), (14, _), (15, _)]) (.cons rfl (.cons rfl (.cons rfl (.cons rfl (.cons rfl (.cons rfl (.cons rfl (.cons rfl (.cons rfl (.cons rfl .nil)))))))))) ?_
                refine wc_condKF rfl rfl ?_
                refine wc_skip ?_
                refine qs_block_normal ?_
                refine qs_seq ?_
                refine wc_region ?_
                refine wl_move rfl rfl ?_
                refine wl_add rfl rfl (by omega) (by omega) rfl ?_
                refine wl_assign rfl rfl ?_
                refine wl_nil ?_
                exact qs_round (L1 := [(0, _), (1, _), (2, _), (3, _), (4, _), (11, _), (13, _), (14, _), (15, intV ((i + 1 : Nat) : Int))]) (.cons rfl (.cons rfl (.cons rfl (.cons rfl (.cons rfl (.cons rfl (.cons rfl (.cons rfl (.cons rfl .nil))))))))) (k1 := l.length - (i + 1)) (by omega) ⟨i + 1, rfl, rfl, by rw [play_step ho]; exact hS14.pick [0, 1, 2] rfl, by omega⟩
              · skip
                refine wc_exit ?_
                refine qs_then_exit ?_
                refine qs_then_exit ?_
                refine qs_block_exit ?_
                refine qs_seq ?_
                refine wc_seq ?_
                have hP0 := play_inv hall i (by omega)
                have hI0 := world_pg 0 hS10 rfl
                have hS15 := hS10; clear hS10
                generalize playW (l.take i) = WA at hP0 hI0 hS15
                refine wc_region ?_
                refine wl_move rfl rfl ?_
                refine wl_makeIface nif_25 rfl rfl ?_
                refine wl_move rfl rfl ?_
                refine wl_move rfl rfl ?_
                refine wl_move rfl rfl ?_
                have hC16 := hS15.split [0] [true, false, false] rfl; dsimp only [selF, pickA, nthA, List.cons_append, List.nil_append] at hC16
                refine wl_call cal_11 rfl (write_sp hC16 nm at_ s (by omega) (by omega) (by omega)) rfl ?_
                rintro e w16 ⟨_, rfl, rfl, hS16⟩; refine ⟨_, rfl, ?_⟩
                replace hS16 := hS16.join rfl; dsimp only [List.dropLast, List.cons_append, List.nil_append] at hS16; clear hC16
                clear hS15
                refine wl_nil ?_
                refine qs_seq ?_
                refine wc_sub (L' := [(1, _), (2, _), (3, _), (4, _), (11, _), (13, _), (14, _)]) (.cons rfl (.cons rfl (.cons rfl (.cons rfl (.cons rfl (.cons rfl (.cons rfl .nil))))))) ?_
                refine wc_seq ?_
                refine wc_seq ?_
                refine wc_region ?_
                refine wl_assign rfl rfl ?_
                refine wl_nil ?_
                refine qs_seq ?_
                refine wc_block ?_
                refine wc_loop (fun K0 E0 W0 => ∃ (k : Nat), K0 = s.length - k ∧ E0 = [(1, strV nm), (2, intV at_), (3, intV cn), (4, strV s), (11, .bool true), (13, ptrV p 0), (14, ptrV fb 0), (16, intV (k : Int))] ∧ Sat W0 [worldT p (writeS WA nm at_ s), refW fb (writeS WA nm at_ (s.take k)) (i + k), F] ∧ (k ≤ s.length)) (L0 := [(1, _), (2, _), (3, _), (4, _), (11, _), (13, _), (14, _), (16, _)]) (s.length - 0) (.cons rfl (.cons rfl (.cons rfl (.cons rfl (.cons rfl (.cons rfl (.cons rfl (.cons rfl .nil)))))))) ⟨0, rfl, rfl, hS16.pick [0, 1, 2] rfl, by omega⟩ ?_
                rintro _ _ w17 ⟨k, rfl, rfl, hS17, hk⟩
                refine wc_seq ?_
                refine wc_seq ?_
                refine wc_region ?_
                refine wl_move rfl rfl ?_
                refine wl_move rfl rfl ?_
                refine wl_lenS Tryz.underlying9 rfl rfl ?_
                refine wl_lss rfl rfl rfl ?_
                refine wl_nil ?_
                refine qs_seq ?_
                refine wc_sub (L' := [(91, _), (1, _), (2, _), (3, _), (4, _), (11, _), (13, _), (14, _), (16, _)]) (.cons rfl (.cons rfl (.cons rfl (.cons rfl (.cons rfl (.cons rfl (.cons rfl (.cons rfl (.cons rfl .nil))))))))) ?_
                refine wc_condD rfl (fun h18 => ?_) (fun h18 => ?_)
                · skip
                  obtain ⟨c, hcs⟩ : ∃ c, s[k]? = some c := ⟨_, List.getElem?_eq_getElem (by omega)⟩
                  have hIk := writeS_ok nm (s.take k) WA at_ hI0
                  refine wc_skip ?_
                  refine qs_seq ?_
                  refine wc_seq ?_
                  refine wc_block ?_
                  refine wc_region ?_
                  refine wl_move rfl rfl ?_
                  refine wl_move rfl rfl ?_
                  refine wl_move rfl rfl ?_
                  refine wl_move rfl rfl ?_
                  refine wl_add rfl rfl (by omega) (by omega) rfl ?_
                  refine wl_move rfl rfl ?_
                  refine wl_move rfl rfl ?_
                  refine wl_indexS _ Tryz.underlying9 rfl rfl (by first | rfl | omega) (by first | assumption | rfl) rfl ?_
                  have hC19 := hS17.split [1] [false, true, false] rfl; dsimp only [selF, pickA, nthA, List.cons_append, List.nil_append] at hC19
                  refine wl_call cal_12 rfl (rSetByte hC19 (by omega) hIk nm (at_ + (k : Int)) c) rfl ?_
                  rintro e w19 ⟨_, rfl, rfl, hS19⟩; refine ⟨_, rfl, ?_⟩
                  replace hS19 := hS19.join rfl; dsimp only [List.dropLast, List.cons_append, List.nil_append] at hS19; clear hC19
                  clear hS17
                  refine wl_nil ?_
                  refine qs_block_normal ?_
                  refine qs_seq ?_
                  refine wc_sub (L' := [(1, _), (2, _), (3, _), (4, _), (11, _), (13, _), (14, _), (16, _)]) (.cons rfl (.cons rfl (.cons rfl (.cons rfl (.cons rfl (.cons rfl (.cons rfl (.cons rfl .nil)))))))) ?_
                  refine wc_region ?_
                  refine wl_move rfl rfl ?_
                  refine wl_add rfl rfl (by omega) (by omega) rfl ?_
                  refine wl_assign rfl rfl ?_
                  refine wl_nil ?_
                  exact qs_round (L1 := [(1, _), (2, _), (3, _), (4, _), (11, _), (13, _), (14, _), (16, intV ((k + 1 : Nat) : Int))]) (.cons rfl (.cons rfl (.cons rfl (.cons rfl (.cons rfl (.cons rfl (.cons rfl (.cons rfl .nil)))))))) (k1 := s.length - (k + 1)) (by omega) ⟨k + 1, rfl, rfl, by rw [writeS_step hcs]; exact hS19.pick [1, 0, 2] rfl, by omega⟩
                · skip
                  refine wc_exit ?_
                  refine qs_then_exit ?_
                  refine qs_then_exit ?_
                  refine qs_block_exit ?_
                  refine qs_seq ?_
                  refine wc_seq ?_
                  have hS20 := hS17; clear hS17; rw [List.take_of_length_le (show s.length ≤ k by omega)] at hS20
                  have hI1 := writeS_ok nm s WA at_ hI0
                  have hK1 : KeysIn (writeS WA nm at_ s).cells 1000000 := by rw [writeS_cells]; exact hP0.kin (by omega)
                  have hnn : i + k ≤ 400 := by omega
                  generalize writeS WA nm at_ s = WB at hI1 hK1 hS20
                  generalize i + k = nn at hnn hS20
                  refine wc_region ?_
                  refine wl_move rfl rfl ?_
                  refine wl_makeIface nif_25 rfl rfl ?_
                  refine wl_move rfl rfl ?_
                  refine wl_move rfl rfl ?_
                  refine wl_move rfl rfl ?_
                  have hC21 := hS20.split [0] [true, false, false] rfl; dsimp only [selF, pickA, nthA, List.cons_append, List.nil_append] at hC21
                  refine wl_call cal_13 rfl (read_sp hC21 nm at_ cn (by omega) (by omega)) rfl ?_
                  rintro e w21 ⟨_, rfl, rfl, hS21⟩; refine ⟨_, rfl, ?_⟩
                  replace hS21 := hS21.join rfl; dsimp only [List.dropLast, List.cons_append, List.nil_append] at hS21; clear hC21
                  clear hS20
                  refine wl_assign rfl rfl ?_
                  refine wl_nil ?_
                  refine qs_seq ?_
                  refine wc_sub (L' := [(17, _), (1, _), (2, _), (3, _), (11, _), (13, _), (14, _)]) (.cons rfl (.cons rfl (.cons rfl (.cons rfl (.cons rfl (.cons rfl (.cons rfl .nil))))))) ?_
                  refine wc_seq ?_
                  refine wc_seq ?_
                  refine wc_region ?_
                  refine wl_move rfl rfl ?_
                  refine wl_lenS Tryz.underlying9 rfl rfl ?_
                  refine wl_move rfl rfl ?_
                  refine wl_maxI rfl rfl rfl ?_
                  refine wl_neq rfl rfl rfl ?_
                  refine wl_nil ?_
                  refine qs_seq ?_
                  refine wc_sub (L' := [(113, _), (17, _), (1, _), (2, _), (3, _), (11, _), (13, _), (14, _)]) (.cons rfl (.cons rfl (.cons rfl (.cons rfl (.cons rfl (.cons rfl (.cons rfl (.cons rfl .nil)))))))) ?_
                  refine wc_condD rfl (fun h22 => ?_) (fun h22 => ?_)
                  · skip
                    exact absurd (by rw [readB_length]; omega) h22
                  · skip
                    refine wc_skip ?_
                    refine qs_seq ?_
                    refine wc_seq ?_
                    refine wc_seq ?_
                    refine wc_region ?_
                    refine wl_assign rfl rfl ?_
                    refine wl_nil ?_
                    refine qs_seq ?_
                    refine wc_block ?_
                    refine wc_loop (fun K0 E0 W0 => ∃ (k : Nat), K0 = cn.toNat - k ∧ E0 = [(1, strV nm), (2, intV at_), (3, intV cn), (11, .bool true), (13, ptrV p 0), (14, ptrV fb 0), (17, strV (readB WB nm at_ (max cn 0).toNat)), (18, intV (k : Int))] ∧ Sat W0 [worldT p WB, refW fb WB nn, F] ∧ (k ≤ cn.toNat)) (L0 := [(1, _), (2, _), (3, _), (11, _), (13, _), (14, _), (17, _), (18, _)]) (cn.toNat - 0) (.cons rfl (.cons rfl (.cons rfl (.cons rfl (.cons rfl (.cons rfl (.cons rfl (.cons rfl .nil)))))))) ⟨0, rfl, rfl, hS21.pick [0, 1, 2] rfl, by omega⟩ ?_
                    rintro _ _ w23 ⟨k, rfl, rfl, hS23, hk⟩
                    refine wc_seq ?_
                    refine wc_seq ?_
                    refine wc_region ?_
                    refine wl_move rfl rfl ?_
                    refine wl_move rfl rfl ?_
                    refine wl_lss rfl rfl rfl ?_
                    refine wl_nil ?_
                    refine qs_seq ?_
                    refine wc_condD rfl (fun h24 => ?_) (fun h24 => ?_)
                    · skip
                      have hrb := readB_at WB nm at_ (k := (max cn 0).toNat) (i := k) (by omega)
                      refine wc_skip ?_
                      refine qs_seq ?_
                      refine wc_sub (L' := [(1, _), (2, _), (3, _), (11, _), (13, _), (14, _), (17, _), (18, _)]) (.cons rfl (.cons rfl (.cons rfl (.cons rfl (.cons rfl (.cons rfl (.cons rfl (.cons rfl .nil)))))))) ?_
                      refine wc_seq ?_
                      refine wc_block ?_
                      refine wc_seq ?_
                      have hS25 := hS23.drew
                      refine wc_draw [0, 1, 2, 3, 4, 5, 6, 7, 8, 9] [8] mix (by kernel_rfl) ?_
                      refine vc_p rfl rfl rfl (fun _ => (ev_move rfl)) ?_
                      refine vc_p rfl rfl rfl (fun _ => (ev_move rfl)) ?_
                      refine vc_q rfl rfl rfl (ev_indexS _ Tryz.underlying9 rfl rfl (by first | rfl | omega) (by first | assumption | rfl)) ?_
                      refine vc_p rfl rfl rfl (fun _ => (ev_move rfl)) ?_
                      refine vc_p rfl rfl rfl (fun _ => (ev_move rfl)) ?_
                      refine vc_p rfl rfl rfl (fun _ => (ev_move rfl)) ?_
                      refine vc_p rfl rfl rfl (fun _ => (ev_move rfl)) ?_
                      refine vc_p rfl rfl rfl (fun _ => (ev_add rfl rfl (by omega) (by omega))) ?_
                      refine vc_s rfl rfl rfl rfl rfl rfl ?_
                      have hC26 := hS25.split [1] [false, true, false] rfl; dsimp only [selF, pickA, nthA, List.cons_append, List.nil_append] at hC26
                      refine wl_call cal_14 rfl (rByte hC26 (by omega) nm (at_ + (k : Int))) rfl ?_
                      rintro e w26 ⟨_, rfl, rfl, hS26⟩; refine ⟨_, rfl, ?_⟩
                      replace hS26 := hS26.join rfl; dsimp only [List.dropLast, List.cons_append, List.nil_append] at hS26; clear hC26
                      clear hS25
                      refine vc_e (.cons (.inl ⟨rfl, (ev_indexS _ Tryz.underlying9 rfl rfl (by first | rfl | omega) (by first | assumption | rfl))⟩) .nil) ?_
                      refine vc_p rfl rfl rfl (fun _ => (ev_neq rfl rfl)) ?_
                      refine VC.nil ?_
                      refine qs_seq ?_
                      refine wc_sub (L' := [(128, _), (1, _), (2, _), (3, _), (11, _), (13, _), (14, _), (17, _), (18, _)]) (.cons rfl (.cons rfl (.cons rfl (.cons rfl (.cons rfl (.cons rfl (.cons rfl (.cons rfl (.cons rfl .nil))))))))) ?_
                      refine wc_condD rfl (fun h27 => ?_) (fun h27 => ?_)
                      · skip
                        exact absurd rfl h27
                      · skip
                        refine wc_skip ?_
                        refine qs_block_normal ?_
                        refine qs_seq ?_
                        refine wc_region ?_
                        refine wl_move rfl rfl ?_
                        refine wl_add rfl rfl (by omega) (by omega) rfl ?_
                        refine wl_assign rfl rfl ?_
                        refine wl_nil ?_
                        exact qs_round (L1 := [(1, _), (2, _), (3, _), (11, _), (13, _), (14, _), (17, _), (18, intV ((k + 1 : Nat) : Int))]) (.cons rfl (.cons rfl (.cons rfl (.cons rfl (.cons rfl (.cons rfl (.cons rfl (.cons rfl .nil)))))))) (k1 := cn.toNat - (k + 1)) (by omega) ⟨k + 1, rfl, rfl, hS26.pick [1, 0, 2] rfl, by omega⟩
                    · skip
                      refine wc_exit ?_
                      refine qs_then_exit ?_
                      refine qs_then_exit ?_
                      refine qs_block_exit ?_
                      refine qs_seq ?_
                      refine wc_sub (L' := [(11, _), (13, _), (14, _)]) (.cons rfl (.cons rfl (.cons rfl .nil))) ?_
                      refine wc_seq ?_
                      refine wc_region ?_
                      refine wl_move rfl rfl ?_
                      have hC28 := hS23.split [1] [false, true, false] rfl; dsimp only [selF, pickA, nthA, List.cons_append, List.nil_append] at hC28
                      refine wl_call cal_15 rfl (rFull hC28 (by omega) hI1) rfl ?_
                      rintro e w28 ⟨_, rfl, lf, hF, hlf, hS28⟩; refine ⟨_, rfl, ?_⟩
                      replace hS28 := hS28.join rfl; dsimp only [List.dropLast, List.cons_append, List.nil_append] at hS28; clear hC28
                      clear hS23
                      refine wl_assign rfl rfl ?_
                      refine wl_nil ?_
                      refine qs_seq ?_
                      refine wc_seq ?_
                      refine wc_seq ?_
                      refine wc_region ?_
                      refine wl_assign rfl rfl ?_
                      refine wl_nil ?_
                      refine qs_seq ?_
                      refine wc_block ?_
                      refine wc_loop (fun K0 E0 W0 => ∃ (j : Nat) (fv : Value), K0 = lf.length - j ∧ E0 = [(11, .bool true), (13, ptrV p 0), (14, ptrV fb 0), (19, fv), (20, intV (j : Int))] ∧ Sat W0 [rowT stC fv lf, worldT p WB, refW fb WB nn, F] ∧ (j ≤ lf.length)) (L0 := [(11, _), (13, _), (14, _), (19, _), (20, _)]) (lf.length - 0) (.cons rfl (.cons rfl (.cons rfl (.cons rfl (.cons rfl .nil))))) ⟨0, _, rfl, rfl, hS28.pick [0, 2, 1, 3] rfl, by omega⟩ ?_
                      rintro _ _ w29 ⟨j, fv, rfl, rfl, hS29, hj⟩
                      refine wc_seq ?_
                      refine wc_seq ?_
                      refine wc_region ?_
                      refine wl_move rfl rfl ?_
                      refine wl_move rfl rfl ?_
                      first | refine wl_lenL Tryz.underlying28 rfl rfl ?_ | refine wl_lenO 0 hS29 Tryz.underlying28 rfl rfl rfl ?_
                      refine wl_lss rfl rfl rfl ?_
                      refine wl_nil ?_
                      refine qs_seq ?_
                      refine wc_condD rfl (fun h30 => ?_) (fun h30 => ?_)
                      · skip
                        obtain ⟨x, hx⟩ : ∃ x, lf[j]? = some x := ⟨_, List.getElem?_eq_getElem (by omega)⟩
                        obtain ⟨rb, rcap, rfl, _⟩ := hS29.own_at 0 rfl (by omega)
                        refine wc_skip ?_
                        refine qs_seq ?_
                        refine wc_seq ?_
                        refine wc_block ?_
                        refine wc_seq ?_
                        have hS31 := hS29.drew
                        refine wc_draw [0, 1, 2, 3, 4, 6, 7, 8, 9, 10, 5, 11, 12] [5, 11] mix (by kernel_rfl) ?_
                        refine vc_p rfl rfl rfl (fun _ => (ev_move rfl)) ?_
                        refine vc_p rfl rfl rfl (fun _ => (ev_move rfl)) ?_
                        refine vc_p rfl rfl rfl (fun _ => (ev_move rfl)) ?_
                        refine vc_p rfl rfl rfl (fun _ => (ev_indexAddr j rfl rfl (by first | rfl | omega) (by first | omega | exact (List.getElem?_eq_some_iff.1 hx).1) es_28)) ?_
                        refine vc_q rfl rfl rfl (ev_rowLoad0 stC 0 j 0 hS31 rfl hx ag_9 rfl rfl) ?_
                        refine vc_p rfl rfl rfl (fun _ => (ev_move rfl)) ?_
                        refine vc_p rfl rfl rfl (fun _ => (ev_move rfl)) ?_
                        refine vc_p rfl rfl rfl (fun _ => (ev_move rfl)) ?_
                        refine vc_p rfl rfl rfl (fun _ => (ev_indexAddr j rfl rfl (by first | rfl | omega) (by first | omega | exact (List.getElem?_eq_some_iff.1 hx).1) es_28)) ?_
                        refine vc_q rfl rfl rfl (ev_rowLoad0 stC 0 j 0 hS31 rfl hx ag_9 rfl rfl) ?_
                        refine vc_s rfl rfl rfl rfl rfl rfl ?_
                        have hC32 := hS31.split [1] [false, true, false, false] rfl; dsimp only [selF, pickA, nthA, List.cons_append, List.nil_append] at hC32
                        refine wl_call cal_16 rfl (object_sp hC32 x) rfl ?_
                        rintro e w32 ⟨_, rfl, rfl, hS32⟩; refine ⟨_, rfl, ?_⟩
                        replace hS32 := hS32.join rfl; dsimp only [List.dropLast, List.cons_append, List.nil_append] at hS32; clear hC32
                        clear hS31
                        refine vc_e (.cons (.inl ⟨rfl, (ev_rowLoad0 stC 1 j 0 hS32 rfl hx ag_9 rfl rfl)⟩) (.skip (by kernel_rfl) .nil)) ?_
                        refine vc_s rfl rfl rfl rfl rfl rfl ?_
                        have hC33 := hS32.split [2] [false, false, true, false] rfl; dsimp only [selF, pickA, nthA, List.cons_append, List.nil_append] at hC33
                        refine wl_call cal_17 rfl (rObject hC33 (by omega) hI1 x) rfl ?_
                        rintro e w33 ⟨_, rfl, rfl, hS33⟩; refine ⟨_, rfl, ?_⟩
                        replace hS33 := hS33.join rfl; dsimp only [List.dropLast, List.cons_append, List.nil_append] at hS33; clear hC33
                        clear hS32
                        refine vc_e (.skip (by kernel_rfl) (.skip (by kernel_rfl) .nil)) ?_
                        refine vc_p rfl rfl rfl (fun _ => (ev_neqS rfl rfl)) ?_
                        refine VC.nil ?_
                        refine qs_seq ?_
                        refine wc_sub (L' := [(149, _), (11, _), (13, _), (14, _), (19, _), (20, _)]) (.cons rfl (.cons rfl (.cons rfl (.cons rfl (.cons rfl (.cons rfl .nil)))))) ?_
                        refine wc_condD rfl (fun h34 => ?_) (fun h34 => ?_)
                        · skip
                          exact absurd rfl h34
                        · skip
                          refine wc_skip ?_
                          refine qs_block_normal ?_
                          refine qs_seq ?_
                          refine wc_region ?_
                          refine wl_move rfl rfl ?_
                          refine wl_add rfl rfl (by omega) (by omega) rfl ?_
                          refine wl_assign rfl rfl ?_
                          refine wl_nil ?_
                          exact qs_round (L1 := [(11, _), (13, _), (14, _), (19, _), (20, intV ((j + 1 : Nat) : Int))]) (.cons rfl (.cons rfl (.cons rfl (.cons rfl (.cons rfl .nil))))) (k1 := lf.length - (j + 1)) (by omega) ⟨j + 1, _, rfl, rfl, hS33.pick [2, 1, 0, 3] rfl, by omega⟩
                      · skip
                        refine wc_exit ?_
                        refine qs_then_exit ?_
                        refine qs_then_exit ?_
                        refine qs_block_exit ?_
                        refine qs_seq ?_
                        refine wc_seq ?_
                        refine wc_region ?_
                        refine wl_move rfl rfl ?_
                        refine wl_move rfl rfl ?_
                        refine wl_guard rfl rfl rfl ?_
                        refine wl_move rfl rfl ?_
                        refine wl_guard rfl rfl rfl ?_
                        have hC35 := hS29.split [1] [false, true, false, false] rfl; dsimp only [selF, pickA, nthA, List.cons_append, List.nil_append] at hC35
                        refine wl_call cal_19 rfl (objects_sp hC35 (hF.objs hI1 (by omega))) rfl ?_
                        rintro e w35 ⟨_, rfl, ln, hln, hS35⟩; refine ⟨_, rfl, ?_⟩
                        replace hS35 := hS35.join rfl; dsimp only [List.dropLast, List.cons_append, List.nil_append] at hS35; clear hC35
                        clear hS29
                        obtain rfl := hF.names hI1 hln
                        refine wl_guard rfl rfl rfl ?_
                        refine wl_move rfl rfl ?_
                        refine wl_guard rfl rfl rfl ?_
                        have hC36 := hS35.split [] [false, false, false, false, false] rfl; dsimp only [selF, pickA, nthA, List.cons_append, List.nil_append] at hC36
                        refine wl_call cal_18 rfl (same_sp hC36 (Ent.starL (ent_row (C := stC) (l := ln) (by omega)) 0 rfl) (Ent.starL (ent_row (C := stC) (l := ln) (by omega)) 2 rfl)) rfl ?_
                        rintro e w36 ⟨_, rfl, rfl, hS36⟩; refine ⟨_, rfl, ?_⟩
                        replace hS36 := hS36.join rfl; dsimp only [List.dropLast, List.cons_append, List.nil_append] at hS36; clear hC36
                        clear hS35
                        refine wl_pickT rfl rfl rfl rfl ?_
                        refine wl_move rfl rfl ?_
                        refine wl_split 157 rfl (fun h37 => ?_) (fun h37 => ?_)
                        · skip
                          refine wl_guard rfl rfl h37 ?_
                          refine wl_move rfl rfl ?_
                          refine wl_guard rfl rfl h37 ?_
                          have hC38 := hS36.split [1] [false, true, false, false, false] rfl; dsimp only [selF, pickA, nthA, List.cons_append, List.nil_append] at hC38
                          refine wl_call cal_20 rfl (keys_sp hC38 [] hK1) rfl ?_
                          rintro e w38 ⟨_, rfl, lk, hlk, hS38⟩; refine ⟨_, rfl, ?_⟩
                          replace hS38 := hS38.join rfl; dsimp only [List.dropLast, List.cons_append, List.nil_append] at hS38; clear hC38
                          clear hS36
                          refine wl_guard rfl rfl h37 ?_
                          refine wl_move rfl rfl ?_
                          refine wl_guard rfl rfl h37 ?_
                          have hC39 := hS38.split [4] [false, false, false, false, true, false] rfl; dsimp only [selF, pickA, nthA, List.cons_append, List.nil_append] at hC39
                          refine wl_call cal_21 rfl (rWith hC39 (by omega) []) rfl ?_
                          rintro e w39 ⟨_, rfl, Z, hZ, hZl, hS39⟩; refine ⟨_, rfl, ?_⟩
                          replace hS39 := hS39.join rfl; dsimp only [List.dropLast, List.cons_append, List.nil_append] at hS39; clear hC39
                          clear hS38
                          obtain rfl := withZ_keys hZ hlk
                          refine wl_guard rfl rfl h37 ?_
                          have hC40 := hS39.split [] [false, false, false, false, false, false, false] rfl; dsimp only [selF, pickA, nthA, List.cons_append, List.nil_append] at hC40
                          refine wl_call cal_18 rfl (same_sp hC40 (Ent.starL (ent_row (C := stC) (l := (withZ Z [])) (by have := withZ_len Z []; omega)) 2 rfl) (Ent.starL (ent_row (C := stC) (l := (withZ Z [])) (by have := withZ_len Z []; omega)) 0 rfl)) rfl ?_
                          rintro e w40 ⟨_, rfl, rfl, hS40⟩; refine ⟨_, rfl, ?_⟩
                          replace hS40 := hS40.join rfl; dsimp only [List.dropLast, List.cons_append, List.nil_append] at hS40; clear hC40
                          clear hS39
                          refine wl_pickT rfl h37 rfl rfl ?_
                          refine wl_assign rfl rfl ?_
                          refine wl_nil ?_
                          refine qs_seq ?_
                          refine wc_sub (L' := [(10, _)]) (.cons rfl .nil) ?_
                          refine wc_ret ?_
                          refine fin1 (.inr rfl) rfl rfl ?_
                          exact ⟨_, rfl, by first | rfl | simp, hS40.pick [6] rfl⟩
                        · skip
                          exact absurd h37 (by simp)

end Go.Proofs.YtieelilkkpcmdaaGreatDoor
