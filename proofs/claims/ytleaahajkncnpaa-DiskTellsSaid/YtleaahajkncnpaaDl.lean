/- laws of disk: DiskSynced -/
import Derived.Test.YtleaahajkncnpaaDk1
namespace Go.Proofs.Ytleaahajkncnpaa
open Go.RowKit M
set_option linter.unusedVariables false
set_option maxRecDepth 100000 in
set_option maxHeartbeats 400000 in
theorem synced_law {w : World} {F : Th} (hS : Sat w [F]) {lv mv kv : Value} {l m : List ActD} {ks : List Int} (f : Int) (hL : Ent F (ActsRd lv l)) (hM : Ent F (ActsRd mv m)) (hK : Ent F (RdI kv ks)) :
    Calls Try.prog 4 #[lv, intV f, mv, kv] w (Ret fun v w' => v = .bool true ∧ Sat w' [F]) := by
  obtain ⟨ao, cap, rfl, hmax⟩ := (hL.sat hS 0 rfl).shape
  obtain ⟨ao2, cap2, rfl, hmax2⟩ := (hM.sat hS 0 rfl).shape
  obtain ⟨aok, capk, hkv, hkm⟩ := (hK.sat hS 0 rfl).shape
  subst hkv
  refine calls_enter Try.func4 rfl Try.ntmps4 rfl ?_
  refine wc_seq ?_
  refine wc_region ?_
  refine wl_assign rfl rfl ?_
  refine wl_nil ?_
  refine qs_seq ?_
  refine wc_seq ?_
  refine wc_region ?_
  have hC1 := hS.split [] [false] rfl; dsimp only [selF, pickA, nthA, List.cons_append, List.nil_append] at hC1
  refine wl_call cal_7 rfl (small_sp hC1) rfl ?_
  rintro e w1 ⟨_, rfl, rfl, hS1⟩; refine ⟨_, rfl, ?_⟩
  replace hS1 := hS1.join rfl; dsimp only [List.dropLast, List.cons_append, List.nil_append] at hS1; clear hC1
  refine wl_assign rfl rfl ?_
  refine wl_nil ?_
  refine qs_seq ?_
  refine wc_seq ?_
  refine wc_seq ?_
  refine wc_region ?_
  refine wl_move rfl rfl ?_
  have hC2 := hS1.split [] [false] rfl; dsimp only [selF, pickA, nthA, List.cons_append, List.nil_append] at hC2
  refine wl_call cal_8 rfl (few_sp hC2 (hL.starL 0 rfl)) rfl ?_
  rintro e w2 ⟨_, rfl, rfl, hS2⟩; refine ⟨_, rfl, ?_⟩
  replace hS2 := hS2.join rfl; dsimp only [List.dropLast, List.cons_append, List.nil_append] at hS2; clear hC2
  clear hS1
  refine wl_not rfl rfl ?_
  refine wl_move rfl rfl ?_
  refine wl_split 23 rfl (fun h3 => ?_) (fun h3 => ?_)
  · skip
    refine wl_unwanted rfl rfl h3 rfl ?_
    refine wl_unwanted rfl rfl h3 rfl ?_
    refine wl_unwanted rfl rfl h3 rfl ?_
    refine wl_pickT rfl h3 rfl rfl ?_
    refine wl_move rfl rfl ?_
    refine wl_unwanted rfl rfl rfl rfl ?_
    refine wl_unwanted rfl rfl rfl rfl ?_
    refine wl_unwanted rfl rfl rfl rfl ?_
    refine wl_pickT rfl rfl rfl rfl ?_
    refine wl_nil ?_
    refine qs_seq ?_
    refine wc_sub (L' := [(32, _), (9, _), (8, _), (0, _), (1, _), (2, _), (3, _)]) (.cons rfl (.cons rfl (.cons rfl (.cons rfl (.cons rfl (.cons rfl (.cons rfl .nil))))))) ?_
    refine wc_condT rfl ?_
    refine wc_seq ?_
    refine wc_region ?_
    refine wl_move rfl rfl ?_
    refine wl_assign rfl rfl ?_
    refine wl_nil ?_
    refine qs_seq ?_
    refine wc_ret ?_
    refine qs_then_ret ?_
    refine fin1 (.inr rfl) rfl rfl ?_
    exact ⟨_, rfl, rfl, hS2⟩
  · skip
    have hf1 : fewB l = true := by simpa using h3
    refine wl_guard rfl rfl h3 ?_
    refine wl_move rfl rfl ?_
    refine wl_guard rfl rfl h3 ?_
    have hC4 := hS2.split [] [false] rfl; dsimp only [selF, pickA, nthA, List.cons_append, List.nil_append] at hC4
    refine wl_call cal_8 rfl (few_sp hC4 (hM.starL 0 rfl)) rfl ?_
    rintro e w4 ⟨_, rfl, rfl, hS4⟩; refine ⟨_, rfl, ?_⟩
    replace hS4 := hS4.join rfl; dsimp only [List.dropLast, List.cons_append, List.nil_append] at hS4; clear hC4
    clear hS2
    refine wl_guard rfl rfl h3 ?_
    refine wl_not rfl rfl ?_
    refine wl_pickF rfl h3 rfl rfl ?_
    refine wl_move rfl rfl ?_
    refine wl_split 28 rfl (fun h5 => ?_) (fun h5 => ?_)
    · skip
      refine wl_unwanted rfl rfl h5 rfl ?_
      refine wl_unwanted rfl rfl h5 rfl ?_
      refine wl_unwanted rfl rfl h5 rfl ?_
      refine wl_pickT rfl h5 rfl rfl ?_
      refine wl_nil ?_
      refine qs_seq ?_
      refine wc_sub (L' := [(32, _), (9, _), (8, _), (0, _), (1, _), (2, _), (3, _)]) (.cons rfl (.cons rfl (.cons rfl (.cons rfl (.cons rfl (.cons rfl (.cons rfl .nil))))))) ?_
      refine wc_condT rfl ?_
      refine wc_seq ?_
      refine wc_region ?_
      refine wl_move rfl rfl ?_
      refine wl_assign rfl rfl ?_
      refine wl_nil ?_
      refine qs_seq ?_
      refine wc_ret ?_
      refine qs_then_ret ?_
      refine fin1 (.inr rfl) rfl rfl ?_
      exact ⟨_, rfl, rfl, hS4⟩
    · skip
      have hf2 : fewB m = true := by simpa using h5
      refine wl_guard rfl rfl h5 ?_
      refine wl_move rfl rfl ?_
      refine wl_guard rfl rfl h5 ?_
      refine wl_lenL Try.underlying31 rfl rfl ?_
      refine wl_guard rfl rfl h5 ?_
      refine wl_gtr rfl rfl rfl ?_
      refine wl_pickF rfl h5 rfl rfl ?_
      refine wl_nil ?_
      refine qs_seq ?_
      refine wc_sub (L' := [(32, _), (9, _), (8, _), (0, _), (1, _), (2, _), (3, _)]) (.cons rfl (.cons rfl (.cons rfl (.cons rfl (.cons rfl (.cons rfl (.cons rfl .nil))))))) ?_
      refine wc_condD rfl (fun h6 => ?_) (fun h6 => ?_)
      · skip
        refine wc_seq ?_
        refine wc_region ?_
        refine wl_move rfl rfl ?_
        refine wl_assign rfl rfl ?_
        refine wl_nil ?_
        refine qs_seq ?_
        refine wc_ret ?_
        refine qs_then_ret ?_
        refine fin1 (.inr rfl) rfl rfl ?_
        exact ⟨_, rfl, rfl, hS4⟩
      · skip
        refine wc_skip ?_
        refine qs_seq ?_
        refine wc_seq ?_
        refine wc_region ?_
        refine wl_move rfl rfl ?_
        have hC7 := hS4.split [] [false] rfl; dsimp only [selF, pickA, nthA, List.cons_append, List.nil_append] at hC7
        refine wl_call cal_21 rfl (played_sp hC7 (hL.starL 0 rfl) hf1) rfl ?_
        rintro e w7 ⟨_, rfl, p, rfl, hS7⟩; refine ⟨_, rfl, ?_⟩
        replace hS7 := hS7.join rfl; dsimp only [List.dropLast, List.cons_append, List.nil_append] at hS7; clear hC7
        clear hS4
        refine wl_assign rfl rfl ?_
        refine wl_nil ?_
        refine qs_seq ?_
        refine wc_seq ?_
        refine wc_seq ?_
        refine wc_region ?_
        refine wl_move rfl rfl ?_
        refine wl_eqlNil Try.underlying25 rfl rfl rfl ?_
        refine wl_nil ?_
        refine qs_seq ?_
        refine wc_sub (L' := [(37, _), (10, _), (9, _), (8, _), (1, _), (2, _), (3, _)]) (.cons rfl (.cons rfl (.cons rfl (.cons rfl (.cons rfl (.cons rfl (.cons rfl .nil))))))) ?_
        refine wc_condF rfl ?_
        refine wc_skip ?_
        refine qs_seq ?_
        refine wc_seq ?_
        refine wc_region ?_
        refine wl_move rfl rfl ?_
        refine wl_move rfl rfl ?_
        have hC8 := hS7.split [0] [true, false] rfl; dsimp only [selF, pickA, nthA, List.cons_append, List.nil_append] at hC8
        refine wl_call cal_19 rfl (readT hC8 f 0 16777216) rfl ?_
        rintro e w8 ⟨_, rfl, rfl, hS8⟩; refine ⟨_, rfl, ?_⟩
        replace hS8 := hS8.join rfl; dsimp only [List.dropLast, List.cons_append, List.nil_append] at hS8; clear hC8
        clear hS7
        refine wl_move rfl rfl ?_
        refine wl_extract rfl rfl rfl ?_
        refine wl_extract rfl rfl rfl ?_
        refine wl_assign rfl rfl ?_
        refine wl_assign rfl rfl ?_
        refine wl_nil ?_
        have hI0 := dT_inv hS8 0 rfl
        refine qs_seq ?_
        refine wc_sub (L' := [(11, _), (10, _), (9, _), (8, _), (1, _), (2, _), (3, _)]) (.cons rfl (.cons rfl (.cons rfl (.cons rfl (.cons rfl (.cons rfl (.cons rfl .nil))))))) ?_
        refine wc_seq ?_
        refine wc_seq ?_
        refine wc_region ?_
        refine wl_move rfl rfl ?_
        refine wl_move rfl rfl ?_
        have hC9 := hS8.split [0] [true, false] rfl; dsimp only [selF, pickA, nthA, List.cons_append, List.nil_append] at hC9
        refine wl_call cal_18 rfl (syncT hC9 f) rfl ?_
        rintro e w9 ⟨_, rfl, rfl, hS9⟩; refine ⟨_, rfl, ?_⟩
        replace hS9 := hS9.join rfl; dsimp only [List.dropLast, List.cons_append, List.nil_append] at hS9; clear hC9
        clear hS8
        refine wl_neq rfl rfl rfl ?_
        refine wl_nil ?_
        refine qs_seq ?_
        refine wc_sub (L' := [(47, _), (11, _), (10, _), (9, _), (8, _), (1, _), (2, _), (3, _)]) (.cons rfl (.cons rfl (.cons rfl (.cons rfl (.cons rfl (.cons rfl (.cons rfl (.cons rfl .nil)))))))) ?_
        refine wc_condD rfl (fun h10 => ?_) (fun h10 => ?_)
        · skip
          refine wc_seq ?_
          refine wc_region ?_
          refine wl_move rfl rfl ?_
          refine wl_assign rfl rfl ?_
          refine wl_nil ?_
          refine qs_seq ?_
          refine wc_ret ?_
          refine qs_then_ret ?_
          refine fin1 (.inr rfl) rfl rfl ?_
          exact ⟨_, rfl, rfl, hS9.tail⟩
        · skip
          skip
          have hs : SyncE (plays newD l) f = 0 := Decidable.not_not.1 h10
          obtain ⟨hH, hm1, hnow⟩ := synced_held hs
          have hm0 := (synced hs).1
          have hf16 := may_ok hm0
          refine wc_skip ?_
          refine qs_seq ?_
          refine wc_seq ?_
          refine wc_region ?_
          refine wl_move rfl rfl ?_
          refine wl_move rfl rfl ?_
          have hC11 := hS9.split [0] [true, false] rfl; dsimp only [selF, pickA, nthA, List.cons_append, List.nil_append] at hC11
          refine wl_call cal_19 rfl (readT hC11 f 0 16777216) rfl ?_
          rintro e w11 ⟨_, rfl, rfl, hS11⟩; refine ⟨_, rfl, ?_⟩
          replace hS11 := hS11.join rfl; dsimp only [List.dropLast, List.cons_append, List.nil_append] at hS11; clear hC11
          clear hS9
          refine wl_move rfl rfl ?_
          refine wl_extract rfl rfl rfl ?_
          refine wl_extract rfl rfl rfl ?_
          refine wl_assign rfl rfl ?_
          refine wl_assign rfl rfl ?_
          refine wl_nil ?_
          have hI1 := dT_inv hS11 0 rfl
          obtain ⟨r1, r2⟩ := read_all hm0 (hI0.now f)
          obtain ⟨r3, r4⟩ := read_all hm1 (hI1.now f)
          obtain ⟨before, hbef⟩ : ∃ x, x = ReadS (plays newD l) f 0 16777216 := ⟨_, rfl⟩
          obtain ⟨now, hnw⟩ : ∃ x, x = ReadS (SyncD (plays newD l) f) f 0 16777216 := ⟨_, rfl⟩
          obtain ⟨e0, he0⟩ : ∃ x, x = ReadE (SyncD (plays newD l) f) f 0 16777216 := ⟨_, rfl⟩
          rw [← hbef, ← hnw, ← he0]
          have hbn : before = now := by rw [hbef, hnw, r2, r4, hnow]
          have hnl : now = (plays newD l |>.F f).1 := by rw [hnw, r4, hnow]
          rw [← hnl] at hH
          rw [r3] at he0
          refine qs_seq ?_
          refine wc_sub (L' := [(14, _), (13, _), (11, _), (10, _), (9, _), (8, _), (1, _), (2, _), (3, _)]) (.cons rfl (.cons rfl (.cons rfl (.cons rfl (.cons rfl (.cons rfl (.cons rfl (.cons rfl (.cons rfl .nil))))))))) ?_
          refine wc_seq ?_
          refine wc_seq ?_
          refine wc_region ?_
          refine wl_assign rfl rfl ?_
          refine wl_nil ?_
          refine qs_seq ?_
          refine wc_block ?_
          refine wc_loop (fun K0 E0 W0 => ∃ (i : Nat) (D : DS), K0 = m.length - i ∧ E0 = [(1, intV f), (2, .slice ao2 m.length cap2), (3, .slice aok ks.length capk), (9, .bool true), (10, ptrV p 0), (11, strV before), (13, strV now), (14, intV e0), (15, intV (i : Int))] ∧ Sat W0 [dT p D, F] ∧ (i ≤ m.length) ∧ (Held f now D)) (L0 := [(1, _), (2, _), (3, _), (9, _), (10, _), (11, _), (13, _), (14, _), (15, _)]) (m.length) (.cons rfl (.cons rfl (.cons rfl (.cons rfl (.cons rfl (.cons rfl (.cons rfl (.cons rfl (.cons rfl .nil))))))))) ⟨0, _, by omega, rfl, hS11, by omega, hH⟩ ?_
          rintro _ _ w12 ⟨i, D, rfl, rfl, hS12, hi, hH⟩
          refine wc_seq ?_
          refine wc_seq ?_
          refine wc_region ?_
          refine wl_move rfl rfl ?_
          refine wl_move rfl rfl ?_
          refine wl_lenL Try.underlying22 rfl rfl ?_
          refine wl_lss rfl rfl rfl ?_
          refine wl_nil ?_
          refine qs_seq ?_
          refine wc_sub (L' := [(58, _), (1, _), (2, _), (3, _), (9, _), (10, _), (11, _), (13, _), (14, _), (15, _)]) (.cons rfl (.cons rfl (.cons rfl (.cons rfl (.cons rfl (.cons rfl (.cons rfl (.cons rfl (.cons rfl (.cons rfl .nil)))))))))) ?_
          refine wc_condD rfl (fun h13 => ?_) (fun h13 => ?_)
          · skip
            obtain ⟨a, ha⟩ : ∃ a, m[i]? = some a := ⟨_, List.getElem?_eq_getElem (by omega)⟩
            obtain ⟨⟨b, off, rfl, hc⟩, hrk, hn⟩ := (hM.sat hS12 1 rfl).get ha
            have c0 := hc 0 _ rfl; have c1 := hc 1 _ rfl
            refine wc_skip ?_
            refine qs_seq ?_
            refine wc_seq ?_
            refine wc_block ?_
            refine wc_seq ?_
            refine wc_region ?_
            refine wl_move rfl rfl ?_
            refine wl_move rfl rfl ?_
            refine wl_indexAddr _ rfl rfl (by first | rfl | omega) (by omega) es_22 rfl ?_
            refine wl_fieldAddr rfl fo_33_0 rfl ?_
            refine wl_load rfl ag_3 (by first | assumption) rfl ?_
            refine wl_mask 3 rfl rfl rfl rfl (q := 8) rfl rfl ?_
            refine wl_assign rfl rfl ?_
            refine wl_nil ?_
            refine qs_seq ?_
            refine wc_sub (L' := [(16, _), (1, _), (2, _), (3, _), (9, _), (10, _), (11, _), (13, _), (14, _), (15, _)]) (.cons rfl (.cons rfl (.cons rfl (.cons rfl (.cons rfl (.cons rfl (.cons rfl (.cons rfl (.cons rfl (.cons rfl .nil)))))))))) ?_
            refine wc_seq ?_
            refine wc_region ?_
            refine wl_move rfl rfl ?_
            refine wl_lss rfl rfl rfl ?_
            refine wl_move rfl rfl ?_
            refine wl_splitD 69 rfl (fun h14 => ?_) (fun h14 => ?_)
            · skip
              refine wl_guard rfl rfl (decide_eq_true h14) ?_
              refine wl_move rfl rfl ?_
              refine wl_guard rfl rfl (decide_eq_true h14) ?_
              refine wl_move rfl rfl ?_
              refine wl_guard rfl rfl (decide_eq_true h14) ?_
              refine wl_indexAddr _ rfl rfl (by first | rfl | omega) (by omega) es_22 rfl ?_
              refine wl_guard rfl rfl (decide_eq_true h14) ?_
              refine wl_fieldAddr rfl fo_33_1 rfl ?_
              refine wl_guard rfl rfl (decide_eq_true h14) ?_
              refine wl_load rfl ag_3 (by first | assumption) rfl ?_
              refine wl_guard rfl rfl (decide_eq_true h14) ?_
              refine wl_move rfl rfl ?_
              refine wl_guard rfl rfl (decide_eq_true h14) ?_
              refine wl_neq rfl rfl rfl ?_
              refine wl_pickT rfl (decide_eq_true h14) rfl rfl ?_
              refine wl_move rfl rfl ?_
              refine wl_splitD 78 rfl (fun h15 => ?_) (fun h15 => ?_)
              · skip
                refine wl_unwanted rfl rfl (decide_eq_true h15) rfl ?_
                refine wl_unwanted rfl rfl (decide_eq_true h15) rfl ?_
                refine wl_pickT rfl (decide_eq_true h15) rfl rfl ?_
                refine wl_nil ?_
                refine qs_seq ?_
                refine wc_sub (L' := [(81, _), (1, _), (2, _), (3, _), (9, _), (10, _), (11, _), (13, _), (14, _), (15, _)]) (.cons rfl (.cons rfl (.cons rfl (.cons rfl (.cons rfl (.cons rfl (.cons rfl (.cons rfl (.cons rfl (.cons rfl .nil)))))))))) ?_
                refine wc_condT rfl ?_
                refine wc_region ?_
                refine wl_move rfl rfl ?_
                refine wl_move rfl rfl ?_
                refine wl_move rfl rfl ?_
                refine wl_indexAddr _ rfl rfl (by first | rfl | omega) (by omega) es_22 rfl ?_
                refine wl_loadAt rfl ag_33 sz_33 (vs := actV a) hc rfl ?_
                have hC16 := hS12.split [0] [true, false] rfl; dsimp only [selF, pickA, nthA, List.cons_append, List.nil_append] at hC16
                refine wl_call cal_11 rfl (doT_sp hC16 a (act_ent (hM.starL 0 rfl) ha) (few_ok hf2 ha hn)) rfl ?_
                rintro e w16 ⟨_, rfl, rfl, hS16⟩; refine ⟨_, rfl, ?_⟩
                replace hS16 := hS16.join rfl; dsimp only [List.dropLast, List.cons_append, List.nil_append] at hS16; clear hC16
                clear hS12
                refine wl_nil ?_
                refine qs_block_normal ?_
                refine qs_seq ?_
                refine wc_sub (L' := [(1, _), (2, _), (3, _), (9, _), (10, _), (11, _), (13, _), (14, _), (15, _)]) (.cons rfl (.cons rfl (.cons rfl (.cons rfl (.cons rfl (.cons rfl (.cons rfl (.cons rfl (.cons rfl .nil))))))))) ?_
                refine wc_region ?_
                refine wl_move rfl rfl ?_
                refine wl_add rfl rfl (by omega) (by omega) rfl ?_
                refine wl_assign rfl rfl ?_
                refine wl_nil ?_
                exact qs_round (L1 := [(1, _), (2, _), (3, _), (9, .bool true), (10, ptrV p 0), (11, _), (13, _), (14, _), (15, intV ((i + 1 : Nat) : Int))]) (.cons rfl (.cons rfl (.cons rfl (.cons rfl (.cons rfl (.cons rfl (.cons rfl (.cons rfl (.cons rfl .nil))))))))) (k1 := m.length - (i + 1)) (by omega) ⟨i + 1, _, by omega, rfl, hS16, by omega, hH.doD (.inl ⟨by omega, by assumption⟩)⟩
              · skip
                refine wl_guard rfl rfl (decide_eq_false h15) ?_
                refine wl_move rfl rfl ?_
                refine wl_guard rfl rfl (decide_eq_false h15) ?_
                refine wl_eql rfl rfl rfl ?_
                refine wl_pickF rfl (decide_eq_false h15) rfl rfl ?_
                refine wl_nil ?_
                refine qs_seq ?_
                refine wc_sub (L' := [(81, _), (1, _), (2, _), (3, _), (9, _), (10, _), (11, _), (13, _), (14, _), (15, _)]) (.cons rfl (.cons rfl (.cons rfl (.cons rfl (.cons rfl (.cons rfl (.cons rfl (.cons rfl (.cons rfl (.cons rfl .nil)))))))))) ?_
                refine wc_condD rfl (fun h17 => ?_) (fun h17 => ?_)
                · skip
                  refine wc_region ?_
                  refine wl_move rfl rfl ?_
                  refine wl_move rfl rfl ?_
                  refine wl_move rfl rfl ?_
                  refine wl_indexAddr _ rfl rfl (by first | rfl | omega) (by omega) es_22 rfl ?_
                  refine wl_loadAt rfl ag_33 sz_33 (vs := actV a) hc rfl ?_
                  have hC18 := hS12.split [0] [true, false] rfl; dsimp only [selF, pickA, nthA, List.cons_append, List.nil_append] at hC18
                  refine wl_call cal_11 rfl (doT_sp hC18 a (act_ent (hM.starL 0 rfl) ha) (few_ok hf2 ha hn)) rfl ?_
                  rintro e w18 ⟨_, rfl, rfl, hS18⟩; refine ⟨_, rfl, ?_⟩
                  replace hS18 := hS18.join rfl; dsimp only [List.dropLast, List.cons_append, List.nil_append] at hS18; clear hC18
                  clear hS12
                  refine wl_nil ?_
                  refine qs_block_normal ?_
                  refine qs_seq ?_
                  refine wc_sub (L' := [(1, _), (2, _), (3, _), (9, _), (10, _), (11, _), (13, _), (14, _), (15, _)]) (.cons rfl (.cons rfl (.cons rfl (.cons rfl (.cons rfl (.cons rfl (.cons rfl (.cons rfl (.cons rfl .nil))))))))) ?_
                  refine wc_region ?_
                  refine wl_move rfl rfl ?_
                  refine wl_add rfl rfl (by omega) (by omega) rfl ?_
                  refine wl_assign rfl rfl ?_
                  refine wl_nil ?_
                  exact qs_round (L1 := [(1, _), (2, _), (3, _), (9, .bool true), (10, ptrV p 0), (11, _), (13, _), (14, _), (15, intV ((i + 1 : Nat) : Int))]) (.cons rfl (.cons rfl (.cons rfl (.cons rfl (.cons rfl (.cons rfl (.cons rfl (.cons rfl (.cons rfl .nil))))))))) (k1 := m.length - (i + 1)) (by omega) ⟨i + 1, _, by omega, rfl, hS18, by omega, hH.doD (.inr (by omega))⟩
                · skip
                  refine wc_skip ?_
                  refine qs_block_normal ?_
                  refine qs_seq ?_
                  refine wc_region ?_
                  refine wl_move rfl rfl ?_
                  refine wl_add rfl rfl (by omega) (by omega) rfl ?_
                  refine wl_assign rfl rfl ?_
                  refine wl_nil ?_
                  exact qs_round (L1 := [(1, _), (2, _), (3, _), (9, .bool true), (10, ptrV p 0), (11, _), (13, _), (14, _), (15, intV ((i + 1 : Nat) : Int))]) (.cons rfl (.cons rfl (.cons rfl (.cons rfl (.cons rfl (.cons rfl (.cons rfl (.cons rfl (.cons rfl .nil))))))))) (k1 := m.length - (i + 1)) (by omega) ⟨i + 1, _, by omega, rfl, hS12, by omega, hH⟩
            · skip
              refine wl_unwanted rfl rfl (decide_eq_false h14) rfl ?_
              refine wl_unwanted rfl rfl (decide_eq_false h14) rfl ?_
              refine wl_unwanted rfl rfl (decide_eq_false h14) rfl ?_
              refine wl_unwanted rfl rfl (decide_eq_false h14) rfl ?_
              refine wl_unwanted rfl rfl (decide_eq_false h14) rfl ?_
              refine wl_unwanted rfl rfl (decide_eq_false h14) rfl ?_
              refine wl_unwanted rfl rfl (decide_eq_false h14) rfl ?_
              refine wl_pickF rfl (decide_eq_false h14) rfl rfl ?_
              refine wl_move rfl rfl ?_
              refine wl_guard rfl rfl rfl ?_
              refine wl_move rfl rfl ?_
              refine wl_guard rfl rfl rfl ?_
              refine wl_eql rfl rfl rfl ?_
              refine wl_pickF rfl rfl rfl rfl ?_
              refine wl_nil ?_
              refine qs_seq ?_
              refine wc_sub (L' := [(81, _), (1, _), (2, _), (3, _), (9, _), (10, _), (11, _), (13, _), (14, _), (15, _)]) (.cons rfl (.cons rfl (.cons rfl (.cons rfl (.cons rfl (.cons rfl (.cons rfl (.cons rfl (.cons rfl (.cons rfl .nil)))))))))) ?_
              refine wc_condD rfl (fun h19 => ?_) (fun h19 => ?_)
              · skip
                refine wc_region ?_
                refine wl_move rfl rfl ?_
                refine wl_move rfl rfl ?_
                refine wl_move rfl rfl ?_
                refine wl_indexAddr _ rfl rfl (by first | rfl | omega) (by omega) es_22 rfl ?_
                refine wl_loadAt rfl ag_33 sz_33 (vs := actV a) hc rfl ?_
                have hC20 := hS12.split [0] [true, false] rfl; dsimp only [selF, pickA, nthA, List.cons_append, List.nil_append] at hC20
                refine wl_call cal_11 rfl (doT_sp hC20 a (act_ent (hM.starL 0 rfl) ha) (few_ok hf2 ha hn)) rfl ?_
                rintro e w20 ⟨_, rfl, rfl, hS20⟩; refine ⟨_, rfl, ?_⟩
                replace hS20 := hS20.join rfl; dsimp only [List.dropLast, List.cons_append, List.nil_append] at hS20; clear hC20
                clear hS12
                refine wl_nil ?_
                refine qs_block_normal ?_
                refine qs_seq ?_
                refine wc_sub (L' := [(1, _), (2, _), (3, _), (9, _), (10, _), (11, _), (13, _), (14, _), (15, _)]) (.cons rfl (.cons rfl (.cons rfl (.cons rfl (.cons rfl (.cons rfl (.cons rfl (.cons rfl (.cons rfl .nil))))))))) ?_
                refine wc_region ?_
                refine wl_move rfl rfl ?_
                refine wl_add rfl rfl (by omega) (by omega) rfl ?_
                refine wl_assign rfl rfl ?_
                refine wl_nil ?_
                exact qs_round (L1 := [(1, _), (2, _), (3, _), (9, .bool true), (10, ptrV p 0), (11, _), (13, _), (14, _), (15, intV ((i + 1 : Nat) : Int))]) (.cons rfl (.cons rfl (.cons rfl (.cons rfl (.cons rfl (.cons rfl (.cons rfl (.cons rfl (.cons rfl .nil))))))))) (k1 := m.length - (i + 1)) (by omega) ⟨i + 1, _, by omega, rfl, hS20, by omega, hH.doD (.inr (by omega))⟩
              · skip
                refine wc_skip ?_
                refine qs_block_normal ?_
                refine qs_seq ?_
                refine wc_region ?_
                refine wl_move rfl rfl ?_
                refine wl_add rfl rfl (by omega) (by omega) rfl ?_
                refine wl_assign rfl rfl ?_
                refine wl_nil ?_
                exact qs_round (L1 := [(1, _), (2, _), (3, _), (9, .bool true), (10, ptrV p 0), (11, _), (13, _), (14, _), (15, intV ((i + 1 : Nat) : Int))]) (.cons rfl (.cons rfl (.cons rfl (.cons rfl (.cons rfl (.cons rfl (.cons rfl (.cons rfl (.cons rfl .nil))))))))) (k1 := m.length - (i + 1)) (by omega) ⟨i + 1, _, by omega, rfl, hS12, by omega, hH⟩
          · skip
            refine wc_exit ?_
            refine qs_then_exit ?_
            refine qs_then_exit ?_
            refine qs_block_exit ?_
            refine qs_seq ?_
            refine wc_seq ?_
            refine wc_region ?_
            refine wl_move rfl rfl ?_
            refine wl_move rfl rfl ?_
            have hC21 := hS12.split [0] [true, false] rfl; dsimp only [selF, pickA, nthA, List.cons_append, List.nil_append] at hC21
            refine wl_call cal_22 rfl (crashT hC21 (hK.starL 0 rfl)) rfl ?_
            rintro e w21 ⟨_, rfl, rfl, hS21⟩; refine ⟨_, rfl, ?_⟩
            replace hS21 := hS21.join rfl; dsimp only [List.dropLast, List.cons_append, List.nil_append] at hS21; clear hC21
            clear hS12
            refine wl_nil ?_
            refine qs_seq ?_
            refine wc_sub (L' := [(1, _), (9, _), (10, _), (11, _), (13, _), (14, _)]) (.cons rfl (.cons rfl (.cons rfl (.cons rfl (.cons rfl (.cons rfl .nil)))))) ?_
            refine wc_seq ?_
            refine wc_region ?_
            refine wl_move rfl rfl ?_
            have hC22 := hS21.split [0] [true, false] rfl; dsimp only [selF, pickA, nthA, List.cons_append, List.nil_append] at hC22
            refine wl_call cal_23 rfl (startT hC22) rfl ?_
            rintro e w22 ⟨_, rfl, rfl, hS22⟩; refine ⟨_, rfl, ?_⟩
            replace hS22 := hS22.join rfl; dsimp only [List.dropLast, List.cons_append, List.nil_append] at hS22; clear hC22
            clear hS21
            refine wl_nil ?_
            refine qs_seq ?_
            refine wc_seq ?_
            refine wc_region ?_
            refine wl_move rfl rfl ?_
            refine wl_move rfl rfl ?_
            have hC23 := hS22.split [0] [true, false] rfl; dsimp only [selF, pickA, nthA, List.cons_append, List.nil_append] at hC23
            refine wl_call cal_19 rfl (readT hC23 f 0 16777216) rfl ?_
            rintro e w23 ⟨_, rfl, rfl, hS23⟩; refine ⟨_, rfl, ?_⟩
            replace hS23 := hS23.join rfl; dsimp only [List.dropLast, List.cons_append, List.nil_append] at hS23; clear hC23
            clear hS22
            refine wl_move rfl rfl ?_
            refine wl_extract rfl rfl rfl ?_
            refine wl_extract rfl rfl rfl ?_
            refine wl_assign rfl rfl ?_
            refine wl_assign rfl rfl ?_
            refine wl_nil ?_
            have hI3 := dT_inv hS23 0 rfl
            have hH3 : Held f now (startD (crashD D ks)) := hH.crash ks
            obtain ⟨r5, r6⟩ := read_all (may_start (D := crashD D ks) hf16) (hI3.now f)
            rw [r5, r6]
            have hs3 : ((startD (crashD D ks)).F f).1 = now := by rw [hH3.1]
            rw [hs3]
            refine qs_seq ?_
            refine wc_sub (L' := [(18, _), (17, _), (9, _), (11, _), (13, _), (14, _)]) (.cons rfl (.cons rfl (.cons rfl (.cons rfl (.cons rfl (.cons rfl .nil)))))) ?_
            refine wc_seq ?_
            refine wc_region ?_
            refine wl_move rfl rfl ?_
            refine wl_move rfl rfl ?_
            refine wl_guard rfl rfl rfl ?_
            refine wl_move rfl rfl ?_
            refine wl_guard rfl rfl rfl ?_
            refine wl_eql rfl rfl rfl ?_
            refine wl_pickT rfl rfl rfl rfl ?_
            refine wl_move rfl rfl ?_
            refine wl_splitD 104 rfl (fun h24 => ?_) (fun h24 => ?_)
            · skip
              refine wl_guard rfl rfl (decide_eq_true h24) ?_
              refine wl_move rfl rfl ?_
              refine wl_guard rfl rfl (decide_eq_true h24) ?_
              refine wl_eql rfl rfl rfl ?_
              refine wl_pickT rfl (decide_eq_true h24) rfl rfl ?_
              refine wl_move rfl rfl ?_
              refine wl_splitD 108 rfl (fun h25 => ?_) (fun h25 => ?_)
              · skip
                refine wl_guard rfl rfl (decide_eq_true h25) ?_
                refine wl_move rfl rfl ?_
                refine wl_guard rfl rfl (decide_eq_true h25) ?_
                refine wl_move rfl rfl ?_
                refine wl_guard rfl rfl (decide_eq_true h25) ?_
                refine wl_eqlS rfl rfl rfl ?_
                refine wl_pickT rfl (decide_eq_true h25) rfl rfl ?_
                refine wl_move rfl rfl ?_
                refine wl_splitD 113 rfl (fun h26 => ?_) (fun h26 => ?_)
                · skip
                  refine wl_guard rfl rfl (decide_eq_true h26) ?_
                  refine wl_move rfl rfl ?_
                  refine wl_guard rfl rfl (decide_eq_true h26) ?_
                  refine wl_move rfl rfl ?_
                  refine wl_guard rfl rfl (decide_eq_true h26) ?_
                  refine wl_eqlS rfl rfl rfl ?_
                  refine wl_pickT rfl (decide_eq_true h26) rfl rfl ?_
                  refine wl_assign rfl rfl ?_
                  refine wl_nil ?_
                  refine qs_seq ?_
                  refine wc_sub (L' := [(8, _)]) (.cons rfl .nil) ?_
                  refine wc_ret ?_
                  refine fin1 (.inr rfl) rfl rfl ?_
                  exact ⟨_, rfl, by simp [hbn], hS23.tail⟩
                · skip
                  exact absurd hbn h26
              · skip
                exact absurd rfl h25
            · skip
              exact absurd he0 h24

end Go.Proofs.Ytleaahajkncnpaa
