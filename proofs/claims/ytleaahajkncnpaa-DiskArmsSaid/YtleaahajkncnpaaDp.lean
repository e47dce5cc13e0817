/- laws of disk: DiskArms -/
import Derived.Test.YtleaahajkncnpaaDo
namespace Go.Proofs.Ytleaahajkncnpaa
open Go.RowKit M
set_option linter.unusedVariables false
theorem newT {w : World} {F : Th} (hS : Sat w [F]) : Calls Try.prog 9 #[] w (Ret fun v w' => ∃ p, v = ptrV p 0 ∧ Sat w' [dT p newD, F]) := (new_sp hS).mono fun e w' h => h.mono fun v w' ⟨p, h1, h2⟩ => ⟨p, h1, dT_new h2⟩
set_option maxRecDepth 100000 in
set_option maxHeartbeats 400000 in
theorem arms_law {w : World} {F : Th} (hS : Sat w [F]) {lv kv : Value} {l : List ActD} {ks : List Int} (n : Int) (hL : Ent F (ActsRd lv l)) (hK : Ent F (RdI kv ks)) :
    Calls Try.prog 5 #[lv, intV n, kv] w (Ret fun v w' => v = .bool true ∧ Sat w' [F]) := by
  obtain ⟨ao, cap, rfl, hmax⟩ := (hL.sat hS 0 rfl).shape
  obtain ⟨aok, capk, hkv, hkm⟩ := (hK.sat hS 0 rfl).shape
  subst hkv
  refine calls_enter Try.func5 rfl Try.ntmps5 rfl ?_
  refine wc_seq ?_
  refine wc_region ?_
  refine wl_assign rfl rfl ?_
  refine wl_nil ?_
  refine qs_seq ?_
  refine wc_seq ?_
  refine wc_region ?_
  have hC1 := hS.split [] [false] rfl; dsimp only [selF, pickA, nthA, List.cons_append, List.nil_append] at hC1
  refine wl_call cal_7 rfl (small_sp hC1) rfl ?_
  rintro e w1 ⟨_, rfl, rfl, hS1⟩; refine ⟨_, rfl, ?_⟩
  replace hS1 := hS1.join rfl; dsimp only [List.dropLast, List.cons_append, List.nil_append] at hS1; clear hC1
  refine wl_assign rfl rfl ?_
  refine wl_nil ?_
  refine qs_seq ?_
  refine wc_seq ?_
  refine wc_seq ?_
  refine wc_region ?_
  refine wl_move rfl rfl ?_
  have hC2 := hS1.split [] [false] rfl; dsimp only [selF, pickA, nthA, List.cons_append, List.nil_append] at hC2
  refine wl_call cal_8 rfl (few_sp hC2 (hL.starL 0 rfl)) rfl ?_
  rintro e w2 ⟨_, rfl, rfl, hS2⟩; refine ⟨_, rfl, ?_⟩
  replace hS2 := hS2.join rfl; dsimp only [List.dropLast, List.cons_append, List.nil_append] at hS2; clear hC2
  clear hS1
  refine wl_not rfl rfl ?_
  refine wl_move rfl rfl ?_
  refine wl_split 19 rfl (fun h3 => ?_) (fun h3 => ?_)
  · skip
    refine wl_unwanted rfl rfl h3 rfl ?_
    refine wl_unwanted rfl rfl h3 rfl ?_
    refine wl_unwanted rfl rfl h3 rfl ?_
    refine wl_pickT rfl h3 rfl rfl ?_
    refine wl_move rfl rfl ?_
    refine wl_unwanted rfl rfl rfl rfl ?_
    refine wl_unwanted rfl rfl rfl rfl ?_
    refine wl_pickT rfl rfl rfl rfl ?_
    refine wl_move rfl rfl ?_
    refine wl_unwanted rfl rfl rfl rfl ?_
    refine wl_unwanted rfl rfl rfl rfl ?_
    refine wl_pickT rfl rfl rfl rfl ?_
    refine wl_nil ?_
    refine qs_seq ?_
    refine wc_sub (L' := [(31, _), (7, _), (6, _), (0, _), (1, _), (2, _)]) (.cons rfl (.cons rfl (.cons rfl (.cons rfl (.cons rfl (.cons rfl .nil)))))) ?_
    refine wc_condT rfl ?_
    refine wc_seq ?_
    refine wc_region ?_
    refine wl_move rfl rfl ?_
    refine wl_assign rfl rfl ?_
    refine wl_nil ?_
    refine qs_seq ?_
    refine wc_ret ?_
    refine qs_then_ret ?_
    refine fin1 (.inr rfl) rfl rfl ?_
    exact ⟨_, rfl, rfl, hS2⟩
  · skip
    have hf1 : fewB l = true := by simpa using h3
    refine wl_guard rfl rfl h3 ?_
    refine wl_move rfl rfl ?_
    refine wl_guard rfl rfl h3 ?_
    refine wl_lenL Try.underlying31 rfl rfl ?_
    refine wl_guard rfl rfl h3 ?_
    refine wl_gtr rfl rfl rfl ?_
    refine wl_pickF rfl h3 rfl rfl ?_
    refine wl_move rfl rfl ?_
    refine wl_splitD 24 rfl (fun h4 => ?_) (fun h4 => ?_)
    · skip
      refine wl_unwanted rfl rfl (decide_eq_true h4) rfl ?_
      refine wl_unwanted rfl rfl (decide_eq_true h4) rfl ?_
      refine wl_pickT rfl (decide_eq_true h4) rfl rfl ?_
      refine wl_move rfl rfl ?_
      refine wl_unwanted rfl rfl rfl rfl ?_
      refine wl_unwanted rfl rfl rfl rfl ?_
      refine wl_pickT rfl rfl rfl rfl ?_
      refine wl_nil ?_
      refine qs_seq ?_
      refine wc_sub (L' := [(31, _), (7, _), (6, _), (0, _), (1, _), (2, _)]) (.cons rfl (.cons rfl (.cons rfl (.cons rfl (.cons rfl (.cons rfl .nil)))))) ?_
      refine wc_condT rfl ?_
      refine wc_seq ?_
      refine wc_region ?_
      refine wl_move rfl rfl ?_
      refine wl_assign rfl rfl ?_
      refine wl_nil ?_
      refine qs_seq ?_
      refine wc_ret ?_
      refine qs_then_ret ?_
      refine fin1 (.inr rfl) rfl rfl ?_
      exact ⟨_, rfl, rfl, hS2⟩
    · skip
      refine wl_guard rfl rfl (decide_eq_false h4) ?_
      refine wl_move rfl rfl ?_
      refine wl_guard rfl rfl (decide_eq_false h4) ?_
      refine wl_lss rfl rfl rfl ?_
      refine wl_pickF rfl (decide_eq_false h4) rfl rfl ?_
      refine wl_move rfl rfl ?_
      refine wl_splitD 28 rfl (fun h5 => ?_) (fun h5 => ?_)
      · skip
        refine wl_unwanted rfl rfl (decide_eq_true h5) rfl ?_
        refine wl_unwanted rfl rfl (decide_eq_true h5) rfl ?_
        refine wl_pickT rfl (decide_eq_true h5) rfl rfl ?_
        refine wl_nil ?_
        refine qs_seq ?_
        refine wc_sub (L' := [(31, _), (7, _), (6, _), (0, _), (1, _), (2, _)]) (.cons rfl (.cons rfl (.cons rfl (.cons rfl (.cons rfl (.cons rfl .nil)))))) ?_
        refine wc_condT rfl ?_
        refine wc_seq ?_
        refine wc_region ?_
        refine wl_move rfl rfl ?_
        refine wl_assign rfl rfl ?_
        refine wl_nil ?_
        refine qs_seq ?_
        refine wc_ret ?_
        refine qs_then_ret ?_
        refine fin1 (.inr rfl) rfl rfl ?_
        exact ⟨_, rfl, rfl, hS2⟩
      · skip
        refine wl_guard rfl rfl (decide_eq_false h5) ?_
        refine wl_move rfl rfl ?_
        refine wl_guard rfl rfl (decide_eq_false h5) ?_
        refine wl_gtr rfl rfl rfl ?_
        refine wl_pickF rfl (decide_eq_false h5) rfl rfl ?_
        refine wl_nil ?_
        refine qs_seq ?_
        refine wc_sub (L' := [(31, _), (7, _), (6, _), (0, _), (1, _), (2, _)]) (.cons rfl (.cons rfl (.cons rfl (.cons rfl (.cons rfl (.cons rfl .nil)))))) ?_
        refine wc_condD rfl (fun h6 => ?_) (fun h6 => ?_)
        · skip
          refine wc_seq ?_
          refine wc_region ?_
          refine wl_move rfl rfl ?_
          refine wl_assign rfl rfl ?_
          refine wl_nil ?_
          refine qs_seq ?_
          refine wc_ret ?_
          refine qs_then_ret ?_
          refine fin1 (.inr rfl) rfl rfl ?_
          exact ⟨_, rfl, rfl, hS2⟩
        · skip
          refine wc_skip ?_
          refine qs_seq ?_
          refine wc_seq ?_
          refine wc_region ?_
          have hC7 := hS2.split [] [false] rfl; dsimp only [selF, pickA, nthA, List.cons_append, List.nil_append] at hC7
          refine wl_call cal_9 rfl (newT hC7) rfl ?_
          rintro e w7 ⟨_, rfl, p, rfl, hS7⟩; refine ⟨_, rfl, ?_⟩
          replace hS7 := hS7.join rfl; dsimp only [List.dropLast, List.cons_append, List.nil_append] at hS7; clear hC7
          clear hS2
          refine wl_assign rfl rfl ?_
          refine wl_nil ?_
          refine qs_seq ?_
          refine wc_seq ?_
          refine wc_region ?_
          have hC8 := hS7.split [] [false, false] rfl; dsimp only [selF, pickA, nthA, List.cons_append, List.nil_append] at hC8
          refine wl_call cal_9 rfl (newT hC8) rfl ?_
          rintro e w8 ⟨_, rfl, q, rfl, hS8⟩; refine ⟨_, rfl, ?_⟩
          replace hS8 := hS8.join rfl; dsimp only [List.dropLast, List.cons_append, List.nil_append] at hS8; clear hC8
          clear hS7
          refine wl_assign rfl rfl ?_
          refine wl_nil ?_
          refine qs_seq ?_
          refine wc_seq ?_
          refine wc_seq ?_
          refine wc_region ?_
          refine wl_move rfl rfl ?_
          refine wl_eqlNil Try.underlying25 rfl rfl rfl ?_
          refine wl_move rfl rfl ?_
          refine wl_guard rfl rfl rfl ?_
          refine wl_move rfl rfl ?_
          refine wl_guard rfl rfl rfl ?_
          refine wl_eqlNil Try.underlying25 rfl rfl rfl ?_
          refine wl_pickF rfl rfl rfl rfl ?_
          refine wl_nil ?_
          refine qs_seq ?_
          refine wc_sub (L' := [(40, _), (9, _), (8, _), (7, _), (6, _), (0, _), (1, _), (2, _)]) (.cons rfl (.cons rfl (.cons rfl (.cons rfl (.cons rfl (.cons rfl (.cons rfl (.cons rfl .nil)))))))) ?_
          refine wc_condF rfl ?_
          refine wc_skip ?_
          refine qs_seq ?_
          refine wc_seq ?_
          refine wc_region ?_
          refine wl_move rfl rfl ?_
          refine wl_move rfl rfl ?_
          refine wl_move rfl rfl ?_
          have hC9 := hS8.split [1] [false, true, false] rfl; dsimp only [selF, pickA, nthA, List.cons_append, List.nil_append] at hC9
          refine wl_call cal_24 rfl (armT hC9 n (by omega) (hK.starL 1 rfl) (by omega)) rfl ?_
          rintro e w9 ⟨_, rfl, rfl, hS9⟩; refine ⟨_, rfl, ?_⟩
          replace hS9 := hS9.join rfl; dsimp only [List.dropLast, List.cons_append, List.nil_append] at hS9; clear hC9
          clear hS8
          refine wl_nil ?_
          refine qs_seq ?_
          refine wc_sub (L' := [(9, _), (8, _), (7, _), (6, _), (0, _), (1, _), (2, _)]) (.cons rfl (.cons rfl (.cons rfl (.cons rfl (.cons rfl (.cons rfl (.cons rfl .nil))))))) ?_
          refine wc_seq ?_
          refine wc_region ?_
          refine wl_assign rfl rfl ?_
          refine wl_nil ?_
          refine qs_seq ?_
          refine wc_seq ?_
          refine wc_seq ?_
          refine wc_region ?_
          refine wl_assign rfl rfl ?_
          refine wl_nil ?_
          refine qs_seq ?_
          refine wc_block ?_
          refine wc_loop (fun K0 E0 W0 => ∃ (i : Nat) (m : Int) (D : DS) (C : DS), K0 = l.length - i ∧ E0 = [(0, .slice ao l.length cap), (1, intV n), (2, .slice aok ks.length capk), (7, .bool true), (8, ptrV p 0), (9, ptrV q 0), (10, intV m), (11, intV (i : Int))] ∧ Sat W0 [dT p D, dT q C, F] ∧ (i ≤ l.length) ∧ (0 ≤ m ∧ m ≤ i) ∧ (RelA n ks m D C)) (L0 := [(0, _), (1, _), (2, _), (7, _), (8, _), (9, _), (10, _), (11, _)]) (l.length) (.cons rfl (.cons rfl (.cons rfl (.cons rfl (.cons rfl (.cons rfl (.cons rfl (.cons rfl .nil)))))))) ⟨0, 0, _, _, by omega, rfl, hS9, by omega, by omega, RelA.start (by omega)⟩ ?_
          rintro _ _ w10 ⟨i, m, D, C, rfl, rfl, hS10, hi, hm, hR⟩
          refine wc_seq ?_
          refine wc_seq ?_
          refine wc_region ?_
          refine wl_move rfl rfl ?_
          refine wl_move rfl rfl ?_
          refine wl_lenL Try.underlying22 rfl rfl ?_
          refine wl_lss rfl rfl rfl ?_
          refine wl_nil ?_
          refine qs_seq ?_
          refine wc_sub (L' := [(48, _), (0, _), (1, _), (2, _), (7, _), (8, _), (9, _), (10, _), (11, _)]) (.cons rfl (.cons rfl (.cons rfl (.cons rfl (.cons rfl (.cons rfl (.cons rfl (.cons rfl (.cons rfl .nil))))))))) ?_
          refine wc_condD rfl (fun h11 => ?_) (fun h11 => ?_)
          · skip
            obtain ⟨a, ha⟩ : ∃ a, l[i]? = some a := ⟨_, List.getElem?_eq_getElem (by omega)⟩
            obtain ⟨⟨b, off, rfl, hc0⟩, hrk, hn⟩ := (hL.sat hS10 2 rfl).get ha
            refine wc_skip ?_
            refine qs_seq ?_
            refine wc_seq ?_
            refine wc_block ?_
            refine wc_seq ?_
            refine wc_region ?_
            refine wl_move rfl rfl ?_
            refine wl_move rfl rfl ?_
            refine wl_indexAddr _ rfl rfl (by first | rfl | omega) (by omega) es_22 rfl ?_
            refine wl_fieldAddr rfl fo_33_0 rfl ?_
            refine wl_load rfl ag_3 (by first | assumption | exact (hL.sat hS10 2 rfl).at_ ha 0 _ rfl) rfl ?_
            refine wl_mask 3 rfl rfl rfl rfl (q := 8) rfl rfl ?_
            refine wl_assign rfl rfl ?_
            refine wl_nil ?_
            refine qs_seq ?_
            refine wc_sub (L' := [(12, _), (0, _), (1, _), (2, _), (7, _), (8, _), (9, _), (10, _), (11, _)]) (.cons rfl (.cons rfl (.cons rfl (.cons rfl (.cons rfl (.cons rfl (.cons rfl (.cons rfl (.cons rfl .nil))))))))) ?_
            refine wc_seq ?_
            refine wc_seq ?_
            refine wc_region ?_
            refine wl_move rfl rfl ?_
            refine wl_gtr rfl rfl rfl ?_
            refine wl_nil ?_
            refine qs_seq ?_
            refine wc_condD rfl (fun h12 => ?_) (fun h12 => ?_)
            · skip
              refine wc_seq ?_
              refine wc_region ?_
              refine wl_move rfl rfl ?_
              refine wl_assign rfl rfl ?_
              refine wl_nil ?_
              refine qs_seq ?_
              refine wc_sub (L' := [(6, _), (12, _), (0, _), (1, _), (2, _), (7, _), (8, _), (9, _), (10, _), (11, _)]) (.cons rfl (.cons rfl (.cons rfl (.cons rfl (.cons rfl (.cons rfl (.cons rfl (.cons rfl (.cons rfl (.cons rfl .nil)))))))))) ?_
              refine wc_ret ?_
              refine qs_then_ret ?_
              refine qs_block_ret ?_
              refine qs_then_ret ?_
              refine qs_then_ret ?_
              refine qs_block_ret ?_
              refine qs_then_ret ?_
              refine fin1 (.inr rfl) rfl rfl ?_
              exact ⟨_, rfl, rfl, hS10.tail.tail⟩
            · skip
              refine wc_skip ?_
              refine qs_seq ?_
              refine wc_mid (fun E0 W0 => ∃ (m2 : Int), E0 = [(0, .slice (some ⟨b, off, none⟩) l.length cap), (1, intV n), (2, .slice aok ks.length capk), (7, .bool true), (8, ptrV p 0), (9, ptrV q 0), (10, intV m2), (11, intV (i : Int)), (12, intV (a.d % 8))] ∧ Sat W0 [dT p D, dT q C, F] ∧ (stepK a m m2) ∧ (0 ≤ m2 ∧ m2 ≤ i + 1)) ?_ ?_
              · skip
                refine wc_seq ?_
                refine wc_region ?_
                refine wl_move rfl rfl ?_
                refine wl_lss rfl rfl rfl ?_
                refine wl_nil ?_
                refine qs_seq ?_
                refine wc_sub (L' := [(61, _), (12, _), (0, _), (1, _), (2, _), (7, _), (8, _), (9, _), (10, _), (11, _)]) (.cons rfl (.cons rfl (.cons rfl (.cons rfl (.cons rfl (.cons rfl (.cons rfl (.cons rfl (.cons rfl (.cons rfl .nil)))))))))) ?_
                refine wc_condD rfl (fun h14 => ?_) (fun h14 => ?_)
                · skip
                  refine wc_region ?_
                  refine wl_move rfl rfl ?_
                  refine wl_add rfl rfl (by omega) (by omega) rfl ?_
                  refine wl_assign rfl rfl ?_
                  refine wl_nil ?_
                  exact qs_mid (.cons rfl (.cons rfl (.cons rfl (.cons rfl (.cons rfl (.cons rfl (.cons rfl (.cons rfl (.cons rfl .nil))))))))) ⟨m + 1, rfl, hS10, .inl ⟨by omega, rfl⟩, by omega⟩
                · skip
                  refine wc_skip ?_
                  exact qs_mid (.cons rfl (.cons rfl (.cons rfl (.cons rfl (.cons rfl (.cons rfl (.cons rfl (.cons rfl (.cons rfl .nil))))))))) ⟨m, rfl, hS10, .inr ⟨by omega, rfl⟩, by omega⟩
              rintro _ w13 ⟨m2, rfl, hS13, hk, hm2⟩
              refine wc_seq ?_
              refine wc_region ?_
              refine wl_move rfl rfl ?_
              refine wl_move rfl rfl ?_
              refine wl_move rfl rfl ?_
              refine wl_indexAddr _ rfl rfl (by first | rfl | omega) (by omega) es_22 rfl ?_
              refine wl_loadAt rfl ag_33 sz_33 (vs := actV a) ((hL.sat hS13 2 rfl).at_ ha) rfl ?_
              have hC15 := hS13.split [0] [true, false, false] rfl; dsimp only [selF, pickA, nthA, List.cons_append, List.nil_append] at hC15
              refine wl_call cal_11 rfl (doT_sp hC15 a (act_ent (hL.starL 1 rfl) ha) (few_ok hf1 ha hn)) rfl ?_
              rintro e w15 ⟨_, rfl, rfl, hS15⟩; refine ⟨_, rfl, ?_⟩
              replace hS15 := hS15.join rfl; dsimp only [List.dropLast, List.cons_append, List.nil_append] at hS15; clear hC15
              clear hS13
              refine wl_assign rfl rfl ?_
              refine wl_nil ?_
              refine qs_seq ?_
              refine wc_sub (L' := [(13, _), (0, _), (1, _), (2, _), (7, _), (8, _), (9, _), (10, _), (11, _), (12, _)]) (.cons rfl (.cons rfl (.cons rfl (.cons rfl (.cons rfl (.cons rfl (.cons rfl (.cons rfl (.cons rfl (.cons rfl .nil)))))))))) ?_
              refine wc_mid (fun E0 W0 => E0 = [(0, .slice (some ⟨b, off, none⟩) l.length cap), (1, intV n), (2, .slice aok ks.length capk), (7, .bool true), (8, ptrV p 0), (9, ptrV q 0), (10, intV m2), (11, intV (i : Int)), (12, intV (a.d % 8)), (13, intV (doE D a))] ∧ Sat W0 [dT p (doD D a), dT q C, F] ∧ (¬ m2 < n)) ?_ ?_
              · skip
                refine wc_seq ?_
                refine wc_region ?_
                refine wl_move rfl rfl ?_
                refine wl_move rfl rfl ?_
                refine wl_lss rfl rfl rfl ?_
                refine wl_move rfl rfl ?_
                refine wl_splitD 73 rfl (fun h17 => ?_) (fun h17 => ?_)
                · skip
                  refine wl_unwanted rfl rfl (decide_eq_true h17) rfl ?_
                  refine wl_unwanted rfl rfl (decide_eq_true h17) rfl ?_
                  refine wl_unwanted rfl rfl (decide_eq_true h17) rfl ?_
                  refine wl_unwanted rfl rfl (decide_eq_true h17) rfl ?_
                  refine wl_unguarded rfl rfl rfl ?_
                  refine wl_unguarded rfl rfl rfl ?_
                  refine wl_unwanted rfl rfl (decide_eq_true h17) rfl ?_
                  refine wl_unwanted rfl rfl (decide_eq_true h17) rfl ?_
                  refine wl_unguarded rfl rfl rfl ?_
                  refine wl_unguarded rfl rfl rfl ?_
                  refine wl_unguarded rfl rfl rfl ?_
                  refine wl_unwanted rfl rfl (decide_eq_true h17) rfl ?_
                  refine wl_pickT rfl (decide_eq_true h17) rfl rfl ?_
                  refine wl_nil ?_
                  refine qs_seq ?_
                  refine wc_sub (L' := [(86, _), (13, _), (0, _), (1, _), (2, _), (7, _), (8, _), (9, _), (10, _), (11, _), (12, _)]) (.cons rfl (.cons rfl (.cons rfl (.cons rfl (.cons rfl (.cons rfl (.cons rfl (.cons rfl (.cons rfl (.cons rfl (.cons rfl .nil))))))))))) ?_
                  refine wc_condT rfl ?_
                  refine wc_seq ?_
                  refine wc_seq ?_
                  refine wc_region ?_
                  refine wl_move rfl rfl ?_
                  refine wl_move rfl rfl ?_
                  refine wl_move rfl rfl ?_
                  refine wl_move rfl rfl ?_
                  refine wl_indexAddr _ rfl rfl (by first | rfl | omega) (by omega) es_22 rfl ?_
                  refine wl_loadAt rfl ag_33 sz_33 (vs := actV a) ((hL.sat hS15 2 rfl).at_ ha) rfl ?_
                  have hC18 := hS15.split [1] [false, true, false] rfl; dsimp only [selF, pickA, nthA, List.cons_append, List.nil_append] at hC18
                  refine wl_call cal_11 rfl (doT_sp hC18 a (act_ent (hL.starL 1 rfl) ha) (few_ok hf1 ha hn)) rfl ?_
                  rintro e w18 ⟨_, rfl, rfl, hS18⟩; refine ⟨_, rfl, ?_⟩
                  replace hS18 := hS18.join rfl; dsimp only [List.dropLast, List.cons_append, List.nil_append] at hS18; clear hC18
                  clear hS15
                  refine wl_neq rfl rfl rfl ?_
                  refine wl_nil ?_
                  refine qs_seq ?_
                  refine wc_sub (L' := [(94, _), (13, _), (0, _), (1, _), (2, _), (7, _), (8, _), (9, _), (10, _), (11, _), (12, _)]) (.cons rfl (.cons rfl (.cons rfl (.cons rfl (.cons rfl (.cons rfl (.cons rfl (.cons rfl (.cons rfl (.cons rfl (.cons rfl .nil))))))))))) ?_
                  refine wc_condD rfl (fun h19 => ?_) (fun h19 => ?_)
                  · skip
                    exact absurd (hR.same hk (by omega)).1 h19
                  · skip
                    refine wc_skip ?_
                    refine qs_seq ?_
                    refine wc_exit ?_
                    refine qs_then_exit ?_
                    refine qs_block_exit ?_
                    refine qs_seq ?_
                    refine wc_sub (L' := [(0, _), (1, _), (2, _), (7, _), (8, _), (9, _), (10, _), (11, _)]) (.cons rfl (.cons rfl (.cons rfl (.cons rfl (.cons rfl (.cons rfl (.cons rfl (.cons rfl .nil)))))))) ?_
                    refine wc_region ?_
                    refine wl_move rfl rfl ?_
                    refine wl_add rfl rfl (by omega) (by omega) rfl ?_
                    refine wl_assign rfl rfl ?_
                    refine wl_nil ?_
                    exact qs_round (L1 := [(0, _), (1, _), (2, _), (7, .bool true), (8, ptrV p 0), (9, ptrV q 0), (10, intV _), (11, intV ((i + 1 : Nat) : Int))]) (.cons rfl (.cons rfl (.cons rfl (.cons rfl (.cons rfl (.cons rfl (.cons rfl (.cons rfl .nil)))))))) (k1 := l.length - (i + 1)) (by omega) ⟨i + 1, m2, _, _, by omega, rfl, hS18.pull 1 rfl, by omega, by omega, (hR.same hk (by omega)).2⟩
                · skip
                  refine wl_guard rfl rfl (decide_eq_false h17) ?_
                  refine wl_move rfl rfl ?_
                  refine wl_guard rfl rfl (decide_eq_false h17) ?_
                  refine wl_move rfl rfl ?_
                  refine wl_guard rfl rfl (decide_eq_false h17) ?_
                  refine wl_eql rfl rfl rfl ?_
                  refine wl_guard rfl rfl (decide_eq_false h17) ?_
                  refine wl_move rfl rfl ?_
                  refine wl_splitD 77 rfl (fun h20 => ?_) (fun h20 => ?_)
                  · skip
                    refine wl_guard rfl rfl (decide_eq_true h20) ?_
                    refine wl_move rfl rfl ?_
                    refine wl_guard rfl rfl (decide_eq_true h20) ?_
                    refine wl_eql rfl rfl rfl ?_
                    refine wl_guard rfl rfl (decide_eq_false h17) ?_
                    refine wl_pickT rfl (decide_eq_true h20) rfl rfl ?_
                    refine wl_guard rfl rfl (decide_eq_false h17) ?_
                    refine wl_move rfl rfl ?_
                    refine wl_splitD 81 rfl (fun h21 => ?_) (fun h21 => ?_)
                    · skip
                      refine wl_guard rfl rfl (decide_eq_true h21) ?_
                      refine wl_move rfl rfl ?_
                      refine wl_guard rfl rfl (decide_eq_true h21) ?_
                      have hC22 := hS15.split [0] [true, false, false] rfl; dsimp only [selF, pickA, nthA, List.cons_append, List.nil_append] at hC22
                      refine wl_call cal_13 rfl (downT hC22) rfl ?_
                      rintro e w22 ⟨_, rfl, rfl, hS22⟩; refine ⟨_, rfl, ?_⟩
                      replace hS22 := hS22.join rfl; dsimp only [List.dropLast, List.cons_append, List.nil_append] at hS22; clear hC22
                      clear hS15
                      refine wl_guard rfl rfl (decide_eq_true h21) ?_
                      refine wl_not rfl rfl ?_
                      refine wl_guard rfl rfl (decide_eq_false h17) ?_
                      refine wl_pickT rfl (decide_eq_true h21) rfl rfl ?_
                      refine wl_pickF rfl (decide_eq_false h17) rfl rfl ?_
                      refine wl_nil ?_
                      refine qs_seq ?_
                      refine wc_sub (L' := [(86, _), (13, _), (0, _), (1, _), (2, _), (7, _), (8, _), (9, _), (10, _), (11, _), (12, _)]) (.cons rfl (.cons rfl (.cons rfl (.cons rfl (.cons rfl (.cons rfl (.cons rfl (.cons rfl (.cons rfl (.cons rfl (.cons rfl .nil))))))))))) ?_
                      refine wc_cond rfl (fun h23 => ?_) (fun h23 => ?_)
                      · skip
                        simp [(hR.down hk (by omega)).2.1] at h23
                      · skip
                        refine wc_skip ?_
                        exact qs_mid (.cons rfl (.cons rfl (.cons rfl (.cons rfl (.cons rfl (.cons rfl (.cons rfl (.cons rfl (.cons rfl (.cons rfl .nil)))))))))) ⟨rfl, hS22, by omega⟩
                    · skip
                      refine wl_unwanted rfl rfl (decide_eq_false h21) rfl ?_
                      refine wl_unwanted rfl rfl (decide_eq_false h21) rfl ?_
                      refine wl_unwanted rfl rfl (decide_eq_false h21) rfl ?_
                      refine wl_guard rfl rfl (decide_eq_false h17) ?_
                      refine wl_pickF rfl (decide_eq_false h21) rfl rfl ?_
                      refine wl_pickF rfl (decide_eq_false h17) rfl rfl ?_
                      refine wl_nil ?_
                      refine qs_seq ?_
                      refine wc_sub (L' := [(86, _), (13, _), (0, _), (1, _), (2, _), (7, _), (8, _), (9, _), (10, _), (11, _), (12, _)]) (.cons rfl (.cons rfl (.cons rfl (.cons rfl (.cons rfl (.cons rfl (.cons rfl (.cons rfl (.cons rfl (.cons rfl (.cons rfl .nil))))))))))) ?_
                      refine wc_condF rfl ?_
                      refine wc_skip ?_
                      exact qs_mid (.cons rfl (.cons rfl (.cons rfl (.cons rfl (.cons rfl (.cons rfl (.cons rfl (.cons rfl (.cons rfl (.cons rfl .nil)))))))))) ⟨rfl, hS15, by omega⟩
                  · skip
                    refine wl_unwanted rfl rfl (decide_eq_false h20) rfl ?_
                    refine wl_unwanted rfl rfl (decide_eq_false h20) rfl ?_
                    refine wl_guard rfl rfl (decide_eq_false h17) ?_
                    refine wl_pickF rfl (decide_eq_false h20) rfl rfl ?_
                    refine wl_guard rfl rfl (decide_eq_false h17) ?_
                    refine wl_move rfl rfl ?_
                    refine wl_unwanted rfl rfl rfl rfl ?_
                    refine wl_unwanted rfl rfl rfl rfl ?_
                    refine wl_unwanted rfl rfl rfl rfl ?_
                    refine wl_guard rfl rfl (decide_eq_false h17) ?_
                    refine wl_pickF rfl rfl rfl rfl ?_
                    refine wl_pickF rfl (decide_eq_false h17) rfl rfl ?_
                    refine wl_nil ?_
                    refine qs_seq ?_
                    refine wc_sub (L' := [(86, _), (13, _), (0, _), (1, _), (2, _), (7, _), (8, _), (9, _), (10, _), (11, _), (12, _)]) (.cons rfl (.cons rfl (.cons rfl (.cons rfl (.cons rfl (.cons rfl (.cons rfl (.cons rfl (.cons rfl (.cons rfl (.cons rfl .nil))))))))))) ?_
                    refine wc_condF rfl ?_
                    refine wc_skip ?_
                    exact qs_mid (.cons rfl (.cons rfl (.cons rfl (.cons rfl (.cons rfl (.cons rfl (.cons rfl (.cons rfl (.cons rfl (.cons rfl .nil)))))))))) ⟨rfl, hS15, by omega⟩
              rintro _ w16 ⟨rfl, hS16, hge⟩
              obtain ⟨e1, e2, e3, e4⟩ := hR.down hk hge
              refine wc_seq ?_
              refine wc_seq ?_
              refine wc_region ?_
              refine wl_move rfl rfl ?_
              refine wl_move rfl rfl ?_
              refine wl_eql rfl rfl rfl ?_
              refine wl_move rfl rfl ?_
              refine wl_splitD 98 rfl (fun h24 => ?_) (fun h24 => ?_)
              · skip
                refine wl_guard rfl rfl (decide_eq_true h24) ?_
                refine wl_move rfl rfl ?_
                refine wl_guard rfl rfl (decide_eq_true h24) ?_
                refine wl_lss rfl rfl rfl ?_
                refine wl_pickT rfl (decide_eq_true h24) rfl rfl ?_
                refine wl_nil ?_
                refine qs_seq ?_
                refine wc_sub (L' := [(101, _), (0, _), (1, _), (2, _), (7, _), (8, _), (9, _), (10, _), (11, _), (12, _), (13, _)]) (.cons rfl (.cons rfl (.cons rfl (.cons rfl (.cons rfl (.cons rfl (.cons rfl (.cons rfl (.cons rfl (.cons rfl (.cons rfl .nil))))))))))) ?_
                refine wc_condD rfl (fun h25 => ?_) (fun h25 => ?_)
                · skip
                  refine wc_region ?_
                  refine wl_move rfl rfl ?_
                  refine wl_move rfl rfl ?_
                  refine wl_move rfl rfl ?_
                  refine wl_indexAddr _ rfl rfl (by first | rfl | omega) (by omega) es_22 rfl ?_
                  refine wl_loadAt rfl ag_33 sz_33 (vs := actV a) ((hL.sat hS16 2 rfl).at_ ha) rfl ?_
                  have hC26 := hS16.split [1] [false, true, false] rfl; dsimp only [selF, pickA, nthA, List.cons_append, List.nil_append] at hC26
                  refine wl_call cal_11 rfl (doT_sp hC26 a (act_ent (hL.starL 1 rfl) ha) (few_ok hf1 ha hn)) rfl ?_
                  rintro e w26 ⟨_, rfl, rfl, hS26⟩; refine ⟨_, rfl, ?_⟩
                  replace hS26 := hS26.join rfl; dsimp only [List.dropLast, List.cons_append, List.nil_append] at hS26; clear hC26
                  clear hS16
                  refine wl_nil ?_
                  refine qs_seq ?_
                  refine wc_sub (L' := [(0, _), (1, _), (2, _), (7, _), (8, _), (9, _), (10, _), (11, _), (12, _), (13, _)]) (.cons rfl (.cons rfl (.cons rfl (.cons rfl (.cons rfl (.cons rfl (.cons rfl (.cons rfl (.cons rfl (.cons rfl .nil)))))))))) ?_
                  refine wc_mid (fun E0 W0 => ∃ (C2 : DS), E0 = [(0, .slice (some ⟨b, off, none⟩) l.length cap), (1, intV n), (2, .slice aok ks.length capk), (7, .bool true), (8, ptrV p 0), (9, ptrV q 0), (10, intV m2), (11, intV (i : Int)), (12, intV (a.d % 8)), (13, intV (doE D a))] ∧ Sat W0 [dT p (doD D a), dT q C2, F] ∧ (RelA n ks m2 (doD D a) C2)) ?_ ?_
                  · skip
                    refine wc_seq ?_
                    refine wc_region ?_
                    refine wl_move rfl rfl ?_
                    refine wl_move rfl rfl ?_
                    refine wl_eql rfl rfl rfl ?_
                    refine wl_move rfl rfl ?_
                    refine wl_splitD 111 rfl (fun h28 => ?_) (fun h28 => ?_)
                    · skip
                      refine wl_guard rfl rfl (decide_eq_true h28) ?_
                      refine wl_move rfl rfl ?_
                      refine wl_guard rfl rfl (decide_eq_true h28) ?_
                      refine wl_lss rfl rfl rfl ?_
                      refine wl_pickT rfl (decide_eq_true h28) rfl rfl ?_
                      refine wl_nil ?_
                      refine qs_seq ?_
                      refine wc_sub (L' := [(114, _), (0, _), (1, _), (2, _), (7, _), (8, _), (9, _), (10, _), (11, _), (12, _), (13, _)]) (.cons rfl (.cons rfl (.cons rfl (.cons rfl (.cons rfl (.cons rfl (.cons rfl (.cons rfl (.cons rfl (.cons rfl (.cons rfl .nil))))))))))) ?_
                      refine wc_condD rfl (fun h29 => ?_) (fun h29 => ?_)
                      · skip
                        refine wc_region ?_
                        refine wl_move rfl rfl ?_
                        refine wl_move rfl rfl ?_
                        have hC30 := hS26.split [0] [true, false, false] rfl; dsimp only [selF, pickA, nthA, List.cons_append, List.nil_append] at hC30
                        refine wl_call cal_22 rfl (crashT hC30 (hK.starL 1 rfl)) rfl ?_
                        rintro e w30 ⟨_, rfl, rfl, hS30⟩; refine ⟨_, rfl, ?_⟩
                        replace hS30 := hS30.join rfl; dsimp only [List.dropLast, List.cons_append, List.nil_append] at hS30; clear hC30
                        clear hS26
                        refine wl_nil ?_
                        exact qs_mid (.cons rfl (.cons rfl (.cons rfl (.cons rfl (.cons rfl (.cons rfl (.cons rfl (.cons rfl (.cons rfl (.cons rfl .nil)))))))))) ⟨_, rfl, hS30.pull 1 rfl, by first | (exfalso; omega) | exact .inr ⟨by omega, e2, (e4 (by omega)).1, (e4 (by omega)).2⟩ | exact .inr ⟨by omega, e2, crash_isDown _ _, by rw [(e3 ⟨by omega, by omega⟩).2.2, if_pos (by omega)]⟩ | exact .inr ⟨by omega, e2, crash_isDown _ _, by rw [(e3 ⟨by omega, by omega⟩).2.2, if_neg (by omega)]⟩⟩
                      · skip
                        refine wc_skip ?_
                        exact qs_mid (.cons rfl (.cons rfl (.cons rfl (.cons rfl (.cons rfl (.cons rfl (.cons rfl (.cons rfl (.cons rfl (.cons rfl .nil)))))))))) ⟨_, rfl, hS26.pull 1 rfl, by first | (exfalso; omega) | exact .inr ⟨by omega, e2, (e4 (by omega)).1, (e4 (by omega)).2⟩ | exact .inr ⟨by omega, e2, crash_isDown _ _, by rw [(e3 ⟨by omega, by omega⟩).2.2, if_pos (by omega)]⟩ | exact .inr ⟨by omega, e2, crash_isDown _ _, by rw [(e3 ⟨by omega, by omega⟩).2.2, if_neg (by omega)]⟩⟩
                    · skip
                      refine wl_unwanted rfl rfl (decide_eq_false h28) rfl ?_
                      refine wl_unwanted rfl rfl (decide_eq_false h28) rfl ?_
                      refine wl_pickF rfl (decide_eq_false h28) rfl rfl ?_
                      refine wl_nil ?_
                      refine qs_seq ?_
                      refine wc_sub (L' := [(114, _), (0, _), (1, _), (2, _), (7, _), (8, _), (9, _), (10, _), (11, _), (12, _), (13, _)]) (.cons rfl (.cons rfl (.cons rfl (.cons rfl (.cons rfl (.cons rfl (.cons rfl (.cons rfl (.cons rfl (.cons rfl (.cons rfl .nil))))))))))) ?_
                      refine wc_condF rfl ?_
                      refine wc_skip ?_
                      exact qs_mid (.cons rfl (.cons rfl (.cons rfl (.cons rfl (.cons rfl (.cons rfl (.cons rfl (.cons rfl (.cons rfl (.cons rfl .nil)))))))))) ⟨_, rfl, hS26.pull 1 rfl, by first | (exfalso; omega) | exact .inr ⟨by omega, e2, (e4 (by omega)).1, (e4 (by omega)).2⟩ | exact .inr ⟨by omega, e2, crash_isDown _ _, by rw [(e3 ⟨by omega, by omega⟩).2.2, if_pos (by omega)]⟩ | exact .inr ⟨by omega, e2, crash_isDown _ _, by rw [(e3 ⟨by omega, by omega⟩).2.2, if_neg (by omega)]⟩⟩
                  rintro _ w27 ⟨C2, rfl, hS27, hR2⟩
                  refine wc_seq ?_
                  refine wc_region ?_
                  refine wl_move rfl rfl ?_
                  refine wl_lss rfl rfl rfl ?_
                  refine wl_move rfl rfl ?_
                  refine wl_splitD 120 rfl (fun h31 => ?_) (fun h31 => ?_)
                  · skip
                    refine wl_guard rfl rfl (decide_eq_true h31) ?_
                    refine wl_move rfl rfl ?_
                    refine wl_guard rfl rfl (decide_eq_true h31) ?_
                    refine wl_neq rfl rfl rfl ?_
                    refine wl_pickT rfl (decide_eq_true h31) rfl rfl ?_
                    refine wl_move rfl rfl ?_
                    refine wl_splitD 124 rfl (fun h32 => ?_) (fun h32 => ?_)
                    · skip
                      exact absurd (e1 (by omega)) h32
                    · skip
                      refine wl_guard rfl rfl (decide_eq_false h32) ?_
                      refine wl_move rfl rfl ?_
                      refine wl_guard rfl rfl (decide_eq_false h32) ?_
                      have hC33 := hS27.split [0] [true, false, false] rfl; dsimp only [selF, pickA, nthA, List.cons_append, List.nil_append] at hC33
                      refine wl_call cal_13 rfl (downT hC33) rfl ?_
                      rintro e w33 ⟨_, rfl, rfl, hS33⟩; refine ⟨_, rfl, ?_⟩
                      replace hS33 := hS33.join rfl; dsimp only [List.dropLast, List.cons_append, List.nil_append] at hS33; clear hC33
                      clear hS27
                      refine wl_guard rfl rfl (decide_eq_false h32) ?_
                      refine wl_not rfl rfl ?_
                      refine wl_pickF rfl (decide_eq_false h32) rfl rfl ?_
                      refine wl_nil ?_
                      refine qs_seq ?_
                      refine wc_sub (L' := [(128, _), (0, _), (1, _), (2, _), (7, _), (8, _), (9, _), (10, _), (11, _)]) (.cons rfl (.cons rfl (.cons rfl (.cons rfl (.cons rfl (.cons rfl (.cons rfl (.cons rfl (.cons rfl .nil))))))))) ?_
                      refine wc_cond rfl (fun h34 => ?_) (fun h34 => ?_)
                      · skip
                        simp [e2] at h34
                      · skip
                        refine wc_skip ?_
                        refine qs_block_normal ?_
                        refine qs_seq ?_
                        refine wc_region ?_
                        refine wl_move rfl rfl ?_
                        refine wl_add rfl rfl (by omega) (by omega) rfl ?_
                        refine wl_assign rfl rfl ?_
                        refine wl_nil ?_
                        exact qs_round (L1 := [(0, _), (1, _), (2, _), (7, .bool true), (8, ptrV p 0), (9, ptrV q 0), (10, intV _), (11, intV ((i + 1 : Nat) : Int))]) (.cons rfl (.cons rfl (.cons rfl (.cons rfl (.cons rfl (.cons rfl (.cons rfl (.cons rfl .nil)))))))) (k1 := l.length - (i + 1)) (by omega) ⟨i + 1, m2, _, _, by omega, rfl, hS33, by omega, by omega, hR2⟩
                  · skip
                    refine wl_unwanted rfl rfl (decide_eq_false h31) rfl ?_
                    refine wl_unwanted rfl rfl (decide_eq_false h31) rfl ?_
                    refine wl_pickF rfl (decide_eq_false h31) rfl rfl ?_
                    refine wl_move rfl rfl ?_
                    refine wl_guard rfl rfl rfl ?_
                    refine wl_move rfl rfl ?_
                    refine wl_guard rfl rfl rfl ?_
                    have hC35 := hS27.split [0] [true, false, false] rfl; dsimp only [selF, pickA, nthA, List.cons_append, List.nil_append] at hC35
                    refine wl_call cal_13 rfl (downT hC35) rfl ?_
                    rintro e w35 ⟨_, rfl, rfl, hS35⟩; refine ⟨_, rfl, ?_⟩
                    replace hS35 := hS35.join rfl; dsimp only [List.dropLast, List.cons_append, List.nil_append] at hS35; clear hC35
                    clear hS27
                    refine wl_guard rfl rfl rfl ?_
                    refine wl_not rfl rfl ?_
                    refine wl_pickF rfl rfl rfl rfl ?_
                    refine wl_nil ?_
                    refine qs_seq ?_
                    refine wc_sub (L' := [(128, _), (0, _), (1, _), (2, _), (7, _), (8, _), (9, _), (10, _), (11, _)]) (.cons rfl (.cons rfl (.cons rfl (.cons rfl (.cons rfl (.cons rfl (.cons rfl (.cons rfl (.cons rfl .nil))))))))) ?_
                    refine wc_cond rfl (fun h36 => ?_) (fun h36 => ?_)
                    · skip
                      simp [e2] at h36
                    · skip
                      refine wc_skip ?_
                      refine qs_block_normal ?_
                      refine qs_seq ?_
                      refine wc_region ?_
                      refine wl_move rfl rfl ?_
                      refine wl_add rfl rfl (by omega) (by omega) rfl ?_
                      refine wl_assign rfl rfl ?_
                      refine wl_nil ?_
                      exact qs_round (L1 := [(0, _), (1, _), (2, _), (7, .bool true), (8, ptrV p 0), (9, ptrV q 0), (10, intV _), (11, intV ((i + 1 : Nat) : Int))]) (.cons rfl (.cons rfl (.cons rfl (.cons rfl (.cons rfl (.cons rfl (.cons rfl (.cons rfl .nil)))))))) (k1 := l.length - (i + 1)) (by omega) ⟨i + 1, m2, _, _, by omega, rfl, hS35, by omega, by omega, hR2⟩
                · skip
                  refine wc_skip ?_
                  refine qs_seq ?_
                  refine wc_mid (fun E0 W0 => ∃ (C2 : DS), E0 = [(0, .slice (some ⟨b, off, none⟩) l.length cap), (1, intV n), (2, .slice aok ks.length capk), (7, .bool true), (8, ptrV p 0), (9, ptrV q 0), (10, intV m2), (11, intV (i : Int)), (12, intV (a.d % 8)), (13, intV (doE D a))] ∧ Sat W0 [dT p (doD D a), dT q C2, F] ∧ (RelA n ks m2 (doD D a) C2)) ?_ ?_
                  · skip
                    refine wc_seq ?_
                    refine wc_region ?_
                    refine wl_move rfl rfl ?_
                    refine wl_move rfl rfl ?_
                    refine wl_eql rfl rfl rfl ?_
                    refine wl_move rfl rfl ?_
                    refine wl_splitD 111 rfl (fun h38 => ?_) (fun h38 => ?_)
                    · skip
                      refine wl_guard rfl rfl (decide_eq_true h38) ?_
                      refine wl_move rfl rfl ?_
                      refine wl_guard rfl rfl (decide_eq_true h38) ?_
                      refine wl_lss rfl rfl rfl ?_
                      refine wl_pickT rfl (decide_eq_true h38) rfl rfl ?_
                      refine wl_nil ?_
                      refine qs_seq ?_
                      refine wc_sub (L' := [(114, _), (0, _), (1, _), (2, _), (7, _), (8, _), (9, _), (10, _), (11, _), (12, _), (13, _)]) (.cons rfl (.cons rfl (.cons rfl (.cons rfl (.cons rfl (.cons rfl (.cons rfl (.cons rfl (.cons rfl (.cons rfl (.cons rfl .nil))))))))))) ?_
                      refine wc_condD rfl (fun h39 => ?_) (fun h39 => ?_)
                      · skip
                        refine wc_region ?_
                        refine wl_move rfl rfl ?_
                        refine wl_move rfl rfl ?_
                        have hC40 := hS16.split [1] [false, true, false] rfl; dsimp only [selF, pickA, nthA, List.cons_append, List.nil_append] at hC40
                        refine wl_call cal_22 rfl (crashT hC40 (hK.starL 1 rfl)) rfl ?_
                        rintro e w40 ⟨_, rfl, rfl, hS40⟩; refine ⟨_, rfl, ?_⟩
                        replace hS40 := hS40.join rfl; dsimp only [List.dropLast, List.cons_append, List.nil_append] at hS40; clear hC40
                        clear hS16
                        refine wl_nil ?_
                        exact qs_mid (.cons rfl (.cons rfl (.cons rfl (.cons rfl (.cons rfl (.cons rfl (.cons rfl (.cons rfl (.cons rfl (.cons rfl .nil)))))))))) ⟨_, rfl, hS40.pull 1 rfl, by first | (exfalso; omega) | exact .inr ⟨by omega, e2, (e4 (by omega)).1, (e4 (by omega)).2⟩ | exact .inr ⟨by omega, e2, crash_isDown _ _, by rw [(e3 ⟨by omega, by omega⟩).2.2, if_pos (by omega)]⟩ | exact .inr ⟨by omega, e2, crash_isDown _ _, by rw [(e3 ⟨by omega, by omega⟩).2.2, if_neg (by omega)]⟩⟩
                      · skip
                        refine wc_skip ?_
                        exact qs_mid (.cons rfl (.cons rfl (.cons rfl (.cons rfl (.cons rfl (.cons rfl (.cons rfl (.cons rfl (.cons rfl (.cons rfl .nil)))))))))) ⟨_, rfl, hS16, by first | (exfalso; omega) | exact .inr ⟨by omega, e2, (e4 (by omega)).1, (e4 (by omega)).2⟩ | exact .inr ⟨by omega, e2, crash_isDown _ _, by rw [(e3 ⟨by omega, by omega⟩).2.2, if_pos (by omega)]⟩ | exact .inr ⟨by omega, e2, crash_isDown _ _, by rw [(e3 ⟨by omega, by omega⟩).2.2, if_neg (by omega)]⟩⟩
                    · skip
                      refine wl_unwanted rfl rfl (decide_eq_false h38) rfl ?_
                      refine wl_unwanted rfl rfl (decide_eq_false h38) rfl ?_
                      refine wl_pickF rfl (decide_eq_false h38) rfl rfl ?_
                      refine wl_nil ?_
                      refine qs_seq ?_
                      refine wc_sub (L' := [(114, _), (0, _), (1, _), (2, _), (7, _), (8, _), (9, _), (10, _), (11, _), (12, _), (13, _)]) (.cons rfl (.cons rfl (.cons rfl (.cons rfl (.cons rfl (.cons rfl (.cons rfl (.cons rfl (.cons rfl (.cons rfl (.cons rfl .nil))))))))))) ?_
                      refine wc_condF rfl ?_
                      refine wc_skip ?_
                      exact qs_mid (.cons rfl (.cons rfl (.cons rfl (.cons rfl (.cons rfl (.cons rfl (.cons rfl (.cons rfl (.cons rfl (.cons rfl .nil)))))))))) ⟨_, rfl, hS16, by first | (exfalso; omega) | exact .inr ⟨by omega, e2, (e4 (by omega)).1, (e4 (by omega)).2⟩ | exact .inr ⟨by omega, e2, crash_isDown _ _, by rw [(e3 ⟨by omega, by omega⟩).2.2, if_pos (by omega)]⟩ | exact .inr ⟨by omega, e2, crash_isDown _ _, by rw [(e3 ⟨by omega, by omega⟩).2.2, if_neg (by omega)]⟩⟩
                  rintro _ w37 ⟨C2, rfl, hS37, hR2⟩
                  refine wc_seq ?_
                  refine wc_region ?_
                  refine wl_move rfl rfl ?_
                  refine wl_lss rfl rfl rfl ?_
                  refine wl_move rfl rfl ?_
                  refine wl_splitD 120 rfl (fun h41 => ?_) (fun h41 => ?_)
                  · skip
                    refine wl_guard rfl rfl (decide_eq_true h41) ?_
                    refine wl_move rfl rfl ?_
                    refine wl_guard rfl rfl (decide_eq_true h41) ?_
                    refine wl_neq rfl rfl rfl ?_
                    refine wl_pickT rfl (decide_eq_true h41) rfl rfl ?_
                    refine wl_move rfl rfl ?_
                    refine wl_splitD 124 rfl (fun h42 => ?_) (fun h42 => ?_)
                    · skip
                      exact absurd (e1 (by omega)) h42
                    · skip
                      refine wl_guard rfl rfl (decide_eq_false h42) ?_
                      refine wl_move rfl rfl ?_
                      refine wl_guard rfl rfl (decide_eq_false h42) ?_
                      have hC43 := hS37.split [0] [true, false, false] rfl; dsimp only [selF, pickA, nthA, List.cons_append, List.nil_append] at hC43
                      refine wl_call cal_13 rfl (downT hC43) rfl ?_
                      rintro e w43 ⟨_, rfl, rfl, hS43⟩; refine ⟨_, rfl, ?_⟩
                      replace hS43 := hS43.join rfl; dsimp only [List.dropLast, List.cons_append, List.nil_append] at hS43; clear hC43
                      clear hS37
                      refine wl_guard rfl rfl (decide_eq_false h42) ?_
                      refine wl_not rfl rfl ?_
                      refine wl_pickF rfl (decide_eq_false h42) rfl rfl ?_
                      refine wl_nil ?_
                      refine qs_seq ?_
                      refine wc_sub (L' := [(128, _), (0, _), (1, _), (2, _), (7, _), (8, _), (9, _), (10, _), (11, _)]) (.cons rfl (.cons rfl (.cons rfl (.cons rfl (.cons rfl (.cons rfl (.cons rfl (.cons rfl (.cons rfl .nil))))))))) ?_
                      refine wc_cond rfl (fun h44 => ?_) (fun h44 => ?_)
                      · skip
                        simp [e2] at h44
                      · skip
                        refine wc_skip ?_
                        refine qs_block_normal ?_
                        refine qs_seq ?_
                        refine wc_region ?_
                        refine wl_move rfl rfl ?_
                        refine wl_add rfl rfl (by omega) (by omega) rfl ?_
                        refine wl_assign rfl rfl ?_
                        refine wl_nil ?_
                        exact qs_round (L1 := [(0, _), (1, _), (2, _), (7, .bool true), (8, ptrV p 0), (9, ptrV q 0), (10, intV _), (11, intV ((i + 1 : Nat) : Int))]) (.cons rfl (.cons rfl (.cons rfl (.cons rfl (.cons rfl (.cons rfl (.cons rfl (.cons rfl .nil)))))))) (k1 := l.length - (i + 1)) (by omega) ⟨i + 1, m2, _, _, by omega, rfl, hS43, by omega, by omega, hR2⟩
                  · skip
                    refine wl_unwanted rfl rfl (decide_eq_false h41) rfl ?_
                    refine wl_unwanted rfl rfl (decide_eq_false h41) rfl ?_
                    refine wl_pickF rfl (decide_eq_false h41) rfl rfl ?_
                    refine wl_move rfl rfl ?_
                    refine wl_guard rfl rfl rfl ?_
                    refine wl_move rfl rfl ?_
                    refine wl_guard rfl rfl rfl ?_
                    have hC45 := hS37.split [0] [true, false, false] rfl; dsimp only [selF, pickA, nthA, List.cons_append, List.nil_append] at hC45
                    refine wl_call cal_13 rfl (downT hC45) rfl ?_
                    rintro e w45 ⟨_, rfl, rfl, hS45⟩; refine ⟨_, rfl, ?_⟩
                    replace hS45 := hS45.join rfl; dsimp only [List.dropLast, List.cons_append, List.nil_append] at hS45; clear hC45
                    clear hS37
                    refine wl_guard rfl rfl rfl ?_
                    refine wl_not rfl rfl ?_
                    refine wl_pickF rfl rfl rfl rfl ?_
                    refine wl_nil ?_
                    refine qs_seq ?_
                    refine wc_sub (L' := [(128, _), (0, _), (1, _), (2, _), (7, _), (8, _), (9, _), (10, _), (11, _)]) (.cons rfl (.cons rfl (.cons rfl (.cons rfl (.cons rfl (.cons rfl (.cons rfl (.cons rfl (.cons rfl .nil))))))))) ?_
                    refine wc_cond rfl (fun h46 => ?_) (fun h46 => ?_)
                    · skip
                      simp [e2] at h46
                    · skip
                      refine wc_skip ?_
                      refine qs_block_normal ?_
                      refine qs_seq ?_
                      refine wc_region ?_
                      refine wl_move rfl rfl ?_
                      refine wl_add rfl rfl (by omega) (by omega) rfl ?_
                      refine wl_assign rfl rfl ?_
                      refine wl_nil ?_
                      exact qs_round (L1 := [(0, _), (1, _), (2, _), (7, .bool true), (8, ptrV p 0), (9, ptrV q 0), (10, intV _), (11, intV ((i + 1 : Nat) : Int))]) (.cons rfl (.cons rfl (.cons rfl (.cons rfl (.cons rfl (.cons rfl (.cons rfl (.cons rfl .nil)))))))) (k1 := l.length - (i + 1)) (by omega) ⟨i + 1, m2, _, _, by omega, rfl, hS45, by omega, by omega, hR2⟩
              · skip
                refine wl_unwanted rfl rfl (decide_eq_false h24) rfl ?_
                refine wl_unwanted rfl rfl (decide_eq_false h24) rfl ?_
                refine wl_pickF rfl (decide_eq_false h24) rfl rfl ?_
                refine wl_nil ?_
                refine qs_seq ?_
                refine wc_sub (L' := [(101, _), (0, _), (1, _), (2, _), (7, _), (8, _), (9, _), (10, _), (11, _), (12, _), (13, _)]) (.cons rfl (.cons rfl (.cons rfl (.cons rfl (.cons rfl (.cons rfl (.cons rfl (.cons rfl (.cons rfl (.cons rfl (.cons rfl .nil))))))))))) ?_
                refine wc_condF rfl ?_
                refine wc_skip ?_
                refine qs_seq ?_
                refine wc_mid (fun E0 W0 => ∃ (C2 : DS), E0 = [(0, .slice (some ⟨b, off, none⟩) l.length cap), (1, intV n), (2, .slice aok ks.length capk), (7, .bool true), (8, ptrV p 0), (9, ptrV q 0), (10, intV m2), (11, intV (i : Int)), (12, intV (a.d % 8)), (13, intV (doE D a))] ∧ Sat W0 [dT p (doD D a), dT q C2, F] ∧ (RelA n ks m2 (doD D a) C2)) ?_ ?_
                · skip
                  refine wc_seq ?_
                  refine wc_region ?_
                  refine wl_move rfl rfl ?_
                  refine wl_move rfl rfl ?_
                  refine wl_eql rfl rfl rfl ?_
                  refine wl_move rfl rfl ?_
                  refine wl_splitD 111 rfl (fun h48 => ?_) (fun h48 => ?_)
                  · skip
                    refine wl_guard rfl rfl (decide_eq_true h48) ?_
                    refine wl_move rfl rfl ?_
                    refine wl_guard rfl rfl (decide_eq_true h48) ?_
                    refine wl_lss rfl rfl rfl ?_
                    refine wl_pickT rfl (decide_eq_true h48) rfl rfl ?_
                    refine wl_nil ?_
                    refine qs_seq ?_
                    refine wc_sub (L' := [(114, _), (0, _), (1, _), (2, _), (7, _), (8, _), (9, _), (10, _), (11, _), (12, _), (13, _)]) (.cons rfl (.cons rfl (.cons rfl (.cons rfl (.cons rfl (.cons rfl (.cons rfl (.cons rfl (.cons rfl (.cons rfl (.cons rfl .nil))))))))))) ?_
                    refine wc_condD rfl (fun h49 => ?_) (fun h49 => ?_)
                    · skip
                      refine wc_region ?_
                      refine wl_move rfl rfl ?_
                      refine wl_move rfl rfl ?_
                      have hC50 := hS16.split [1] [false, true, false] rfl; dsimp only [selF, pickA, nthA, List.cons_append, List.nil_append] at hC50
                      refine wl_call cal_22 rfl (crashT hC50 (hK.starL 1 rfl)) rfl ?_
                      rintro e w50 ⟨_, rfl, rfl, hS50⟩; refine ⟨_, rfl, ?_⟩
                      replace hS50 := hS50.join rfl; dsimp only [List.dropLast, List.cons_append, List.nil_append] at hS50; clear hC50
                      clear hS16
                      refine wl_nil ?_
                      exact qs_mid (.cons rfl (.cons rfl (.cons rfl (.cons rfl (.cons rfl (.cons rfl (.cons rfl (.cons rfl (.cons rfl (.cons rfl .nil)))))))))) ⟨_, rfl, hS50.pull 1 rfl, by first | (exfalso; omega) | exact .inr ⟨by omega, e2, (e4 (by omega)).1, (e4 (by omega)).2⟩ | exact .inr ⟨by omega, e2, crash_isDown _ _, by rw [(e3 ⟨by omega, by omega⟩).2.2, if_pos (by omega)]⟩ | exact .inr ⟨by omega, e2, crash_isDown _ _, by rw [(e3 ⟨by omega, by omega⟩).2.2, if_neg (by omega)]⟩⟩
                    · skip
                      refine wc_skip ?_
                      exact qs_mid (.cons rfl (.cons rfl (.cons rfl (.cons rfl (.cons rfl (.cons rfl (.cons rfl (.cons rfl (.cons rfl (.cons rfl .nil)))))))))) ⟨_, rfl, hS16, by first | (exfalso; omega) | exact .inr ⟨by omega, e2, (e4 (by omega)).1, (e4 (by omega)).2⟩ | exact .inr ⟨by omega, e2, crash_isDown _ _, by rw [(e3 ⟨by omega, by omega⟩).2.2, if_pos (by omega)]⟩ | exact .inr ⟨by omega, e2, crash_isDown _ _, by rw [(e3 ⟨by omega, by omega⟩).2.2, if_neg (by omega)]⟩⟩
                  · skip
                    refine wl_unwanted rfl rfl (decide_eq_false h48) rfl ?_
                    refine wl_unwanted rfl rfl (decide_eq_false h48) rfl ?_
                    refine wl_pickF rfl (decide_eq_false h48) rfl rfl ?_
                    refine wl_nil ?_
                    refine qs_seq ?_
                    refine wc_sub (L' := [(114, _), (0, _), (1, _), (2, _), (7, _), (8, _), (9, _), (10, _), (11, _), (12, _), (13, _)]) (.cons rfl (.cons rfl (.cons rfl (.cons rfl (.cons rfl (.cons rfl (.cons rfl (.cons rfl (.cons rfl (.cons rfl (.cons rfl .nil))))))))))) ?_
                    refine wc_condF rfl ?_
                    refine wc_skip ?_
                    exact qs_mid (.cons rfl (.cons rfl (.cons rfl (.cons rfl (.cons rfl (.cons rfl (.cons rfl (.cons rfl (.cons rfl (.cons rfl .nil)))))))))) ⟨_, rfl, hS16, by first | (exfalso; omega) | exact .inr ⟨by omega, e2, (e4 (by omega)).1, (e4 (by omega)).2⟩ | exact .inr ⟨by omega, e2, crash_isDown _ _, by rw [(e3 ⟨by omega, by omega⟩).2.2, if_pos (by omega)]⟩ | exact .inr ⟨by omega, e2, crash_isDown _ _, by rw [(e3 ⟨by omega, by omega⟩).2.2, if_neg (by omega)]⟩⟩
                rintro _ w47 ⟨C2, rfl, hS47, hR2⟩
                refine wc_seq ?_
                refine wc_region ?_
                refine wl_move rfl rfl ?_
                refine wl_lss rfl rfl rfl ?_
                refine wl_move rfl rfl ?_
                refine wl_splitD 120 rfl (fun h51 => ?_) (fun h51 => ?_)
                · skip
                  refine wl_guard rfl rfl (decide_eq_true h51) ?_
                  refine wl_move rfl rfl ?_
                  refine wl_guard rfl rfl (decide_eq_true h51) ?_
                  refine wl_neq rfl rfl rfl ?_
                  refine wl_pickT rfl (decide_eq_true h51) rfl rfl ?_
                  refine wl_move rfl rfl ?_
                  refine wl_splitD 124 rfl (fun h52 => ?_) (fun h52 => ?_)
                  · skip
                    exact absurd (e1 (by omega)) h52
                  · skip
                    refine wl_guard rfl rfl (decide_eq_false h52) ?_
                    refine wl_move rfl rfl ?_
                    refine wl_guard rfl rfl (decide_eq_false h52) ?_
                    have hC53 := hS47.split [0] [true, false, false] rfl; dsimp only [selF, pickA, nthA, List.cons_append, List.nil_append] at hC53
                    refine wl_call cal_13 rfl (downT hC53) rfl ?_
                    rintro e w53 ⟨_, rfl, rfl, hS53⟩; refine ⟨_, rfl, ?_⟩
                    replace hS53 := hS53.join rfl; dsimp only [List.dropLast, List.cons_append, List.nil_append] at hS53; clear hC53
                    clear hS47
                    refine wl_guard rfl rfl (decide_eq_false h52) ?_
                    refine wl_not rfl rfl ?_
                    refine wl_pickF rfl (decide_eq_false h52) rfl rfl ?_
                    refine wl_nil ?_
                    refine qs_seq ?_
                    refine wc_sub (L' := [(128, _), (0, _), (1, _), (2, _), (7, _), (8, _), (9, _), (10, _), (11, _)]) (.cons rfl (.cons rfl (.cons rfl (.cons rfl (.cons rfl (.cons rfl (.cons rfl (.cons rfl (.cons rfl .nil))))))))) ?_
                    refine wc_cond rfl (fun h54 => ?_) (fun h54 => ?_)
                    · skip
                      simp [e2] at h54
                    · skip
                      refine wc_skip ?_
                      refine qs_block_normal ?_
                      refine qs_seq ?_
                      refine wc_region ?_
                      refine wl_move rfl rfl ?_
                      refine wl_add rfl rfl (by omega) (by omega) rfl ?_
                      refine wl_assign rfl rfl ?_
                      refine wl_nil ?_
                      exact qs_round (L1 := [(0, _), (1, _), (2, _), (7, .bool true), (8, ptrV p 0), (9, ptrV q 0), (10, intV _), (11, intV ((i + 1 : Nat) : Int))]) (.cons rfl (.cons rfl (.cons rfl (.cons rfl (.cons rfl (.cons rfl (.cons rfl (.cons rfl .nil)))))))) (k1 := l.length - (i + 1)) (by omega) ⟨i + 1, m2, _, _, by omega, rfl, hS53, by omega, by omega, hR2⟩
                · skip
                  refine wl_unwanted rfl rfl (decide_eq_false h51) rfl ?_
                  refine wl_unwanted rfl rfl (decide_eq_false h51) rfl ?_
                  refine wl_pickF rfl (decide_eq_false h51) rfl rfl ?_
                  refine wl_move rfl rfl ?_
                  refine wl_guard rfl rfl rfl ?_
                  refine wl_move rfl rfl ?_
                  refine wl_guard rfl rfl rfl ?_
                  have hC55 := hS47.split [0] [true, false, false] rfl; dsimp only [selF, pickA, nthA, List.cons_append, List.nil_append] at hC55
                  refine wl_call cal_13 rfl (downT hC55) rfl ?_
                  rintro e w55 ⟨_, rfl, rfl, hS55⟩; refine ⟨_, rfl, ?_⟩
                  replace hS55 := hS55.join rfl; dsimp only [List.dropLast, List.cons_append, List.nil_append] at hS55; clear hC55
                  clear hS47
                  refine wl_guard rfl rfl rfl ?_
                  refine wl_not rfl rfl ?_
                  refine wl_pickF rfl rfl rfl rfl ?_
                  refine wl_nil ?_
                  refine qs_seq ?_
                  refine wc_sub (L' := [(128, _), (0, _), (1, _), (2, _), (7, _), (8, _), (9, _), (10, _), (11, _)]) (.cons rfl (.cons rfl (.cons rfl (.cons rfl (.cons rfl (.cons rfl (.cons rfl (.cons rfl (.cons rfl .nil))))))))) ?_
                  refine wc_cond rfl (fun h56 => ?_) (fun h56 => ?_)
                  · skip
                    simp [e2] at h56
                  · skip
                    refine wc_skip ?_
                    refine qs_block_normal ?_
                    refine qs_seq ?_
                    refine wc_region ?_
                    refine wl_move rfl rfl ?_
                    refine wl_add rfl rfl (by omega) (by omega) rfl ?_
                    refine wl_assign rfl rfl ?_
                    refine wl_nil ?_
                    exact qs_round (L1 := [(0, _), (1, _), (2, _), (7, .bool true), (8, ptrV p 0), (9, ptrV q 0), (10, intV _), (11, intV ((i + 1 : Nat) : Int))]) (.cons rfl (.cons rfl (.cons rfl (.cons rfl (.cons rfl (.cons rfl (.cons rfl (.cons rfl .nil)))))))) (k1 := l.length - (i + 1)) (by omega) ⟨i + 1, m2, _, _, by omega, rfl, hS55, by omega, by omega, hR2⟩
          · skip
            refine wc_exit ?_
            refine qs_then_exit ?_
            refine qs_then_exit ?_
            refine qs_block_exit ?_
            refine qs_seq ?_
            refine wc_seq ?_
            refine wc_region ?_
            refine wl_move rfl rfl ?_
            refine wl_move rfl rfl ?_
            refine wl_move rfl rfl ?_
            have hC57 := hS10.split [0, 1] [true, true, false] rfl; dsimp only [selF, pickA, nthA, List.cons_append, List.nil_append] at hC57
            refine wl_call cal_25 rfl (same_sp hC57 (hL.starL 0 rfl) hR.agree) rfl ?_
            rintro e w57 ⟨_, rfl, rfl, hS57⟩; refine ⟨_, rfl, ?_⟩
            replace hS57 := hS57.join rfl; dsimp only [List.dropLast, List.cons_append, List.nil_append] at hS57; clear hC57
            clear hS10
            refine wl_assign rfl rfl ?_
            refine wl_nil ?_
            refine qs_seq ?_
            refine wc_sub (L' := [(14, _), (0, _), (7, _), (8, _), (9, _)]) (.cons rfl (.cons rfl (.cons rfl (.cons rfl (.cons rfl .nil))))) ?_
            refine wc_seq ?_
            refine wc_region ?_
            refine wl_move rfl rfl ?_
            have hC58 := hS57.split [0] [true, false, false] rfl; dsimp only [selF, pickA, nthA, List.cons_append, List.nil_append] at hC58
            refine wl_call cal_23 rfl (startT hC58) rfl ?_
            rintro e w58 ⟨_, rfl, rfl, hS58⟩; refine ⟨_, rfl, ?_⟩
            replace hS58 := hS58.join rfl; dsimp only [List.dropLast, List.cons_append, List.nil_append] at hS58; clear hC58
            clear hS57
            refine wl_nil ?_
            refine qs_seq ?_
            refine wc_seq ?_
            refine wc_region ?_
            refine wl_move rfl rfl ?_
            have hC59 := hS58.split [1] [false, true, false] rfl; dsimp only [selF, pickA, nthA, List.cons_append, List.nil_append] at hC59
            refine wl_call cal_23 rfl (startT hC59) rfl ?_
            rintro e w59 ⟨_, rfl, rfl, hS59⟩; refine ⟨_, rfl, ?_⟩
            replace hS59 := hS59.join rfl; dsimp only [List.dropLast, List.cons_append, List.nil_append] at hS59; clear hC59
            clear hS58
            refine wl_nil ?_
            refine qs_seq ?_
            refine wc_seq ?_
            refine wc_region ?_
            refine wl_move rfl rfl ?_
            refine wl_move rfl rfl ?_
            refine wl_guard rfl rfl rfl ?_
            refine wl_move rfl rfl ?_
            refine wl_pickT rfl rfl rfl rfl ?_
            refine wl_move rfl rfl ?_
            refine wl_guard rfl rfl rfl ?_
            refine wl_move rfl rfl ?_
            refine wl_guard rfl rfl rfl ?_
            refine wl_move rfl rfl ?_
            refine wl_guard rfl rfl rfl ?_
            refine wl_move rfl rfl ?_
            refine wl_guard rfl rfl rfl ?_
            have hC60 := hS59.split [1, 0] [true, true, false] rfl; dsimp only [selF, pickA, nthA, List.cons_append, List.nil_append] at hC60
            refine wl_call cal_25 rfl (same_sp hC60 (hL.starL 0 rfl) ⟨rfl, hR.agree.2⟩) rfl ?_
            rintro e w60 ⟨_, rfl, rfl, hS60⟩; refine ⟨_, rfl, ?_⟩
            replace hS60 := hS60.join rfl; dsimp only [List.dropLast, List.cons_append, List.nil_append] at hS60; clear hC60
            clear hS59
            refine wl_pickT rfl rfl rfl rfl ?_
            refine wl_assign rfl rfl ?_
            refine wl_nil ?_
            refine qs_seq ?_
            refine wc_sub (L' := [(6, _)]) (.cons rfl .nil) ?_
            refine wc_ret ?_
            refine fin1 (.inr rfl) rfl rfl ?_
            exact ⟨_, rfl, rfl, hS60.tail.tail⟩

theorem arms_row {W : World} {v0 v2 : Value} {n : Int} {l0 : List (Int × Int × Int × ByteArray × List Int × Unit)} {l2 : List Int} (h0 : SliceRd actC.rd actC.size W v0 l0) (h2 : SliceRd intC.rd intC.size W v2 l2) :
    Calls Try.prog 5 #[v0, .int .i64 n, v2] W fun e W' => e = .returned (.bool true) ∧ Below W.heap.size W W' := by
  obtain ⟨a0, h0⟩ := acts_of h0
  exact (arms_law (Sat.start W) n (Ent.frame h0) (Ent.frame (rdI_of h2))).mono fun e W' ⟨v, h4, h5, h6⟩ => ⟨by rw [h4, h5], below_of h6⟩
end Go.Proofs.Ytleaahajkncnpaa
