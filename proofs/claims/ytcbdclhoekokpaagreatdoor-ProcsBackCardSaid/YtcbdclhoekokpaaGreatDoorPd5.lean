/- laws of procs: ProcsBack -/
import Derived.Test.YtcbdclhoekokpaaGreatDoorPd4
import Derived.Test.YtcbdclhoekokpaaGreatDoorPc8
import Derived.ChangeKeysEq
import Derived.Laws.StructEq
namespace Go.Proofs.YtcbdclhoekokpaaGreatDoor
open Go.RowKit M
set_option linter.unusedVariables false
set_option maxRecDepth 100000 in
set_option maxHeartbeats 2000000 in
theorem back_law {w : World} {F : Th} (hS : Sat w [F]) (hG : Ent F WireG) {x : ProcD} {av fv : Value} (hx : Wf0 x) (hA : Ent F (RdL arC av x.ar)) (hF : Ent F (RdL stC fv x.fds)) (s : Bs) (a b : Int) :
    Calls Tryz.prog 6 #[.agg (procV x av fv).toArray, strV s, intV a, intV b] w (Ret fun v w' => v = .bool true ∧ Sat w' [F]) := by
  refine calls_enter Tryz.func6 rfl Tryz.ntmps6 rfl ?_
  refine wc_seq ?_
  refine wc_region ?_
  refine wl_box hS rfl rfl rfl ?_
  intro bp wp hSp0
  have hSp : Sat wp [blkT bp (procV x av fv), F] := hSp0
  refine wl_assign rfl rfl ?_
  refine wl_nil ?_
  refine qs_seq ?_
  refine wc_seq ?_
  refine wc_region ?_
  have hC1 := hSp.split [] [false, false] rfl; dsimp only [selF, pickA, nthA, List.cons_append, List.nil_append] at hC1
  refine wl_call cal_8 rfl (small28_sp hC1 (hG.starL 1 rfl)) rfl ?_
  rintro e w1 ⟨_, rfl, rfl, hS1⟩; refine ⟨_, rfl, ?_⟩
  replace hS1 := hS1.join rfl; dsimp only [List.dropLast, List.cons_append, List.nil_append] at hS1; clear hC1
  clear hSp
  refine wl_assign rfl rfl ?_
  refine wl_nil ?_
  refine qs_seq ?_
  refine wc_seq ?_
  refine wc_seq ?_
  refine wc_region ?_
  refine wl_loadA rfl ag_38 sz_38 (by first | exact hS1.blk 0 rfl) (by first | decide | exact Nat.le_of_ble_eq_true rfl | (simp; done) | omega) rfl rfl ?_
  have hC2 := hS1.split [] [false, false] rfl; dsimp only [selF, pickA, nthA, List.cons_append, List.nil_append] at hC2
  refine wl_call cal_20 rfl (light_sp hC2 (hA.starL 1 rfl) (hF.starL 1 rfl)) rfl ?_
  rintro e w2 ⟨_, rfl, lb, rfl, hb, hS2⟩; refine ⟨_, rfl, ?_⟩
  replace hS2 := hS2.join rfl; dsimp only [List.dropLast, List.cons_append, List.nil_append] at hS2; clear hC2
  clear hS1
  refine wl_not rfl rfl ?_
  refine wl_move rfl rfl ?_
  refine wl_split 18 rfl (fun h3 => ?_) (fun h3 => ?_)
  · skip
    refine wl_unwanted rfl rfl h3 rfl ?_
    refine wl_unwanted rfl rfl h3 rfl ?_
    refine wl_unwanted rfl rfl h3 rfl ?_
    refine wl_pickT rfl h3 rfl rfl ?_
    refine wl_nil ?_
    refine qs_seq ?_
    refine wc_sub (L' := [(22, _), (9, _), (8, _), (4, _), (1, _), (2, _), (3, _)]) (.cons rfl (.cons rfl (.cons rfl (.cons rfl (.cons rfl (.cons rfl (.cons rfl .nil))))))) ?_
    refine wc_condT rfl ?_
    refine wc_seq ?_
    refine wc_region ?_
    refine wl_move rfl rfl ?_
    refine wl_assign rfl rfl ?_
    refine wl_nil ?_
    refine qs_seq ?_
    refine wc_ret ?_
    refine qs_then_ret ?_
    refine fin1 (.inr rfl) rfl rfl ?_
    exact ⟨_, rfl, by first | rfl | (simp [h8]; done) | (simp; omega), hS2.pick [1] rfl⟩
  · skip
    have hL : Light x := hb (by simpa using h3)
    have hw := hL.wfr hx
    have hln := hL.len hx
    refine wl_guard rfl rfl h3 ?_
    refine wl_move rfl rfl ?_
    refine wl_guard rfl rfl h3 ?_
    refine wl_lenS Tryz.underlying9 rfl rfl ?_
    refine wl_guard rfl rfl h3 ?_
    refine wl_gtr rfl rfl rfl ?_
    refine wl_pickF rfl h3 rfl rfl ?_
    refine wl_nil ?_
    refine qs_seq ?_
    refine wc_sub (L' := [(22, _), (9, _), (8, _), (4, _), (1, _), (2, _), (3, _)]) (.cons rfl (.cons rfl (.cons rfl (.cons rfl (.cons rfl (.cons rfl (.cons rfl .nil))))))) ?_
    refine wc_condD rfl (fun h4 => ?_) (fun h4 => ?_)
    · skip
      refine wc_seq ?_
      refine wc_region ?_
      refine wl_move rfl rfl ?_
      refine wl_assign rfl rfl ?_
      refine wl_nil ?_
      refine qs_seq ?_
      refine wc_ret ?_
      refine qs_then_ret ?_
      refine fin1 (.inr rfl) rfl rfl ?_
      exact ⟨_, rfl, by first | rfl | (simp [h8]; done) | (simp; omega), hS2.pick [1] rfl⟩
    · skip
      refine wc_skip ?_
      refine qs_seq ?_
      refine wc_seq ?_
      refine wc_region ?_
      refine wl_loadA rfl ag_38 sz_38 (by first | exact hS2.blk 0 rfl) (by first | decide | exact Nat.le_of_ble_eq_true rfl | (simp; done) | omega) rfl rfl ?_
      have hC5 := hS2.split [] [false, false] rfl; dsimp only [selF, pickA, nthA, List.cons_append, List.nil_append] at hC5
      refine wl_call cal_22 rfl (bytesP_sp hC5 (hG.starL 1 rfl) hw (hA.starL 1 rfl) (hF.starL 1 rfl) (by omega)) rfl ?_
      rintro e w5 ⟨_, rfl, rfl, hS5⟩; refine ⟨_, rfl, ?_⟩
      replace hS5 := hS5.join rfl; dsimp only [List.dropLast, List.cons_append, List.nil_append] at hS5; clear hC5
      clear hS2
      have hC6 := hS5.split [] [false, false] rfl; dsimp only [selF, pickA, nthA, List.cons_append, List.nil_append] at hC6
      refine wl_call cal_21 rfl (readP_sp hC6 (hG.starL 1 rfl) (encR x) (by omega)) rfl ?_
      rintro e w6 ⟨_, rfl, av1, fv1, rfl, hS6⟩; refine ⟨_, rfl, ?_⟩
      replace hS6 := hS6.join rfl; dsimp only [List.dropLast, List.cons_append, List.nil_append] at hS6; clear hC6
      clear hS5
      rw [dec_enc hw (by omega)] at hS6 ⊢
      dsimp only [Option.getD_some, Option.isSome_some] at hS6 ⊢
      refine wl_move rfl rfl ?_
      refine wl_extract rfl rfl rfl ?_
      refine wl_extract rfl rfl rfl ?_
      have hone := procV_one (x := x) (hS6.own_one 0 rfl) (hS6.own_one 1 rfl)
      refine wl_alloc hS6 zr_38 rfl rfl ?_
      intro bq w7 hS7
      clear hS6
      refine wl_storeA hS7 rfl rfl sz_38 rfl (by first | rfl | (simp [allOne, Value.oneCell']; done) | assumption) (i := 0) rfl (by first | decide | exact Nat.le_of_ble_eq_true rfl | (simp; done) | omega) ?_
      intro w8 hS8; dsimp only [List.set] at hS8
      clear hS7
      rw [splice_all _ _ (by rfl)] at hS8
      refine wl_assign rfl rfl ?_
      refine wl_nil ?_
      refine qs_seq ?_
      refine wc_sub (L' := [(11, _), (10, _), (9, _), (8, _), (4, _), (1, _), (2, _), (3, _)]) (.cons rfl (.cons rfl (.cons rfl (.cons rfl (.cons rfl (.cons rfl (.cons rfl (.cons rfl .nil)))))))) ?_
      refine wc_seq ?_
      refine wc_region ?_
      refine wl_move rfl rfl ?_
      have hC9 := hS8.split [] [false, false, false, false, false] rfl; dsimp only [selF, pickA, nthA, List.cons_append, List.nil_append] at hC9
      refine wl_call cal_21 rfl (readP_sp hC9 (hG.starL 4 rfl) s (by omega)) rfl ?_
      rintro e w9 ⟨_, rfl, av2, fv2, rfl, hS9⟩; refine ⟨_, rfl, ?_⟩
      replace hS9 := hS9.join rfl; dsimp only [List.dropLast, List.cons_append, List.nil_append] at hS9; clear hC9
      clear hS8
      refine wl_move rfl rfl ?_
      refine wl_extract rfl rfl rfl ?_
      refine wl_extract rfl rfl rfl ?_
      have hone := procV_one (x := ((decP s).getD zeroP)) (hS9.own_one 0 rfl) (hS9.own_one 1 rfl)
      refine wl_alloc hS9 zr_38 rfl rfl ?_
      intro bx w10 hS10
      clear hS9
      refine wl_storeA hS10 rfl rfl sz_38 rfl (by first | rfl | (simp [allOne, Value.oneCell']; done) | assumption) (i := 0) rfl (by first | decide | exact Nat.le_of_ble_eq_true rfl | (simp; done) | omega) ?_
      intro w11 hS11; dsimp only [List.set] at hS11
      clear hS10
      rw [splice_all _ _ (by rfl)] at hS11
      refine wl_assign rfl rfl ?_
      refine wl_nil ?_
      refine qs_seq ?_
      refine wc_sub (L' := [(13, _), (12, _), (11, _), (10, _), (9, _), (8, _), (4, _), (1, _), (2, _), (3, _)]) (.cons rfl (.cons rfl (.cons rfl (.cons rfl (.cons rfl (.cons rfl (.cons rfl (.cons rfl (.cons rfl (.cons rfl .nil)))))))))) ?_
      refine wc_seq ?_
      refine wc_seq ?_
      refine wc_region ?_
      refine wl_move rfl rfl ?_
      refine wl_not rfl rfl ?_
      refine wl_move rfl rfl ?_
      refine wl_split 37 rfl (fun h12 => ?_) (fun h12 => ?_)
      · skip
        first | exact absurd rfl h12 | (simp at h12; done)
      · skip
        refine wl_guard rfl rfl h12 ?_
        refine wl_loadA rfl ag_38 sz_38 (by first | exact hS11.blk 0 rfl | exact hS11.blk 3 rfl | exact hS11.blk 6 rfl) (by first | decide | exact Nat.le_of_ble_eq_true rfl | (simp; done) | omega) rfl rfl ?_
        refine wl_guard rfl rfl h12 ?_
        refine wl_loadA rfl ag_38 sz_38 (by first | exact hS11.blk 0 rfl | exact hS11.blk 3 rfl | exact hS11.blk 6 rfl) (by first | decide | exact Nat.le_of_ble_eq_true rfl | (simp; done) | omega) rfl rfl ?_
        refine wl_guard rfl rfl h12 ?_
        have hC13 := hS11.split [] [false, false, false, false, false, false, false, false] rfl; dsimp only [selF, pickA, nthA, List.cons_append, List.nil_append] at hC13
        refine wl_call cal_14 rfl (refSame_sp hC13 (hA.starL 7 rfl) (hF.starL 7 rfl) (Ent.starL (ent_row (by have := hw.al; omega)) 4 rfl) (Ent.starL (ent_row (by have := hw.fdl; omega)) 5 rfl)) rfl ?_
        rintro e w13 ⟨_, rfl, rfl, hS13⟩; refine ⟨_, rfl, ?_⟩
        replace hS13 := hS13.join rfl; dsimp only [List.dropLast, List.cons_append, List.nil_append] at hS13; clear hC13
        clear hS11
        refine wl_guard rfl rfl h12 ?_
        refine wl_not rfl rfl ?_
        refine wl_pickF rfl h12 rfl rfl ?_
        refine wl_move rfl rfl ?_
        refine wl_split 43 rfl (fun h14 => ?_) (fun h14 => ?_)
        · skip
          first | exact absurd rfl h14 | (simp at h14; done)
        · skip
          refine wl_guard rfl rfl h14 ?_
          refine wl_loadA rfl ag_38 sz_38 (by first | exact hS13.blk 0 rfl | exact hS13.blk 3 rfl | exact hS13.blk 6 rfl) (by first | decide | exact Nat.le_of_ble_eq_true rfl | (simp; done) | omega) rfl rfl ?_
          refine wl_guard rfl rfl h14 ?_
          refine wl_loadA rfl ag_38 sz_38 (by first | exact hS13.blk 0 rfl | exact hS13.blk 3 rfl | exact hS13.blk 6 rfl) (by first | decide | exact Nat.le_of_ble_eq_true rfl | (simp; done) | omega) rfl rfl ?_
          refine wl_guard rfl rfl h14 ?_
          have hC15 := hS13.split [] [false, false, false, false, false, false, false, false] rfl; dsimp only [selF, pickA, nthA, List.cons_append, List.nil_append] at hC15
          refine wl_call cal_23 rfl (same28_sp hC15 (hA.starL 7 rfl) (hF.starL 7 rfl) (Ent.starL (ent_row (by have := hw.al; omega)) 4 rfl) (Ent.starL (ent_row (by have := hw.fdl; omega)) 5 rfl) (hG.starL 7 rfl) hw (by omega)) rfl ?_
          rintro e w15 ⟨_, rfl, rfl, hS15⟩; refine ⟨_, rfl, ?_⟩
          replace hS15 := hS15.join rfl; dsimp only [List.dropLast, List.cons_append, List.nil_append] at hS15; clear hC15
          clear hS13
          refine wl_guard rfl rfl h14 ?_
          refine wl_not rfl rfl ?_
          refine wl_pickF rfl h14 rfl rfl ?_
          refine wl_move rfl rfl ?_
          refine wl_split 49 rfl (fun h16 => ?_) (fun h16 => ?_)
          · skip
            first | exact absurd rfl h16 | (simp at h16; done)
          · skip
            refine wl_guard rfl rfl h16 ?_
            refine wl_move rfl rfl ?_
            refine wl_guard rfl rfl h16 ?_
            refine wl_move rfl rfl ?_
            refine wl_split 51 rfl (fun h17 => ?_) (fun h17 => ?_)
            · skip
              obtain ⟨y, hy⟩ := optYes (q := decP s) (by simpa using h17)
              rw [hy] at hS15 hone h17 ⊢
              dsimp only [Option.getD_some] at hS15 hone ⊢
              obtain ⟨hwy, hye⟩ := dec_some hy
              refine wl_guard rfl rfl h17 ?_
              refine wl_loadA rfl ag_38 sz_38 (by first | exact hS15.blk 0 rfl | exact hS15.blk 3 rfl | exact hS15.blk 6 rfl) (by first | decide | exact Nat.le_of_ble_eq_true rfl | (simp; done) | omega) rfl rfl ?_
              refine wl_guard rfl rfl h17 ?_
              have hC18 := hS15.split [] [false, false, false, false, false, false, false, false] rfl; dsimp only [selF, pickA, nthA, List.cons_append, List.nil_append] at hC18
              refine wl_call cal_22 rfl (bytesP_sp hC18 (hG.starL 7 rfl) hwy (Ent.starL (ent_row (by have := hwy.al; omega)) 1 rfl) (Ent.starL (ent_row (by have := hwy.fdl; omega)) 2 rfl) (by rw [hye]; omega)) rfl ?_
              rintro e w18 ⟨_, rfl, rfl, hS18⟩; refine ⟨_, rfl, ?_⟩
              replace hS18 := hS18.join rfl; dsimp only [List.dropLast, List.cons_append, List.nil_append] at hS18; clear hC18
              clear hS15
              rw [hye]
              refine wl_guard rfl rfl h17 ?_
              refine wl_move rfl rfl ?_
              refine wl_guard rfl rfl h17 ?_
              refine wl_neqS rfl rfl rfl ?_
              refine wl_guard rfl rfl h16 ?_
              refine wl_pickT rfl h17 rfl rfl ?_
              refine wl_pickF rfl h16 rfl rfl ?_
              refine wl_nil ?_
              refine qs_seq ?_
              refine wc_sub (L' := [(57, _), (9, _), (8, _), (2, _), (3, _)]) (.cons rfl (.cons rfl (.cons rfl (.cons rfl (.cons rfl .nil))))) ?_
              refine wc_condD rfl (fun h19 => ?_) (fun h19 => ?_)
              · skip
                first | exact absurd rfl h19 | (simp at h19; done)
              · skip
                refine wc_skip ?_
                refine qs_seq ?_
                refine wc_seq ?_
                refine wc_seq ?_
                refine wc_region ?_
                refine wl_move rfl rfl ?_
                refine wl_lss rfl rfl rfl ?_
                refine wl_move rfl rfl ?_
                refine wl_splitD 60 rfl (fun h20 => ?_) (fun h20 => ?_)
                · skip
                  refine wl_unwanted rfl rfl (decide_eq_true h20) rfl ?_
                  refine wl_unwanted rfl rfl (decide_eq_true h20) rfl ?_
                  refine wl_pickT rfl (decide_eq_true h20) rfl rfl ?_
                  refine wl_move rfl rfl ?_
                  refine wl_unwanted rfl rfl rfl rfl ?_
                  refine wl_unwanted rfl rfl rfl rfl ?_
                  refine wl_pickT rfl rfl rfl rfl ?_
                  refine wl_move rfl rfl ?_
                  refine wl_unwanted rfl rfl rfl rfl ?_
                  refine wl_unwanted rfl rfl rfl rfl ?_
                  refine wl_pickT rfl rfl rfl rfl ?_
                  refine wl_nil ?_
                  refine qs_seq ?_
                  refine wc_sub (L' := [(71, _), (9, _), (8, _), (2, _), (3, _)]) (.cons rfl (.cons rfl (.cons rfl (.cons rfl (.cons rfl .nil))))) ?_
                  refine wc_condT rfl ?_
                  refine wc_seq ?_
                  refine wc_region ?_
                  refine wl_move rfl rfl ?_
                  refine wl_assign rfl rfl ?_
                  refine wl_nil ?_
                  refine qs_seq ?_
                  refine wc_ret ?_
                  refine qs_then_ret ?_
                  refine fin1 (.inr rfl) rfl rfl ?_
                  exact ⟨_, rfl, by first | rfl | (simp [h8]; done) | (simp; omega), hS18.pick [7] rfl⟩
                · skip
                  refine wl_guard rfl rfl (decide_eq_false h20) ?_
                  refine wl_move rfl rfl ?_
                  refine wl_guard rfl rfl (decide_eq_false h20) ?_
                  refine wl_lss rfl rfl rfl ?_
                  refine wl_pickF rfl (decide_eq_false h20) rfl rfl ?_
                  refine wl_move rfl rfl ?_
                  refine wl_splitD 64 rfl (fun h21 => ?_) (fun h21 => ?_)
                  · skip
                    refine wl_unwanted rfl rfl (decide_eq_true h21) rfl ?_
                    refine wl_unwanted rfl rfl (decide_eq_true h21) rfl ?_
                    refine wl_pickT rfl (decide_eq_true h21) rfl rfl ?_
                    refine wl_move rfl rfl ?_
                    refine wl_unwanted rfl rfl rfl rfl ?_
                    refine wl_unwanted rfl rfl rfl rfl ?_
                    refine wl_pickT rfl rfl rfl rfl ?_
                    refine wl_nil ?_
                    refine qs_seq ?_
                    refine wc_sub (L' := [(71, _), (9, _), (8, _), (2, _), (3, _)]) (.cons rfl (.cons rfl (.cons rfl (.cons rfl (.cons rfl .nil))))) ?_
                    refine wc_condT rfl ?_
                    refine wc_seq ?_
                    refine wc_region ?_
                    refine wl_move rfl rfl ?_
                    refine wl_assign rfl rfl ?_
                    refine wl_nil ?_
                    refine qs_seq ?_
                    refine wc_ret ?_
                    refine qs_then_ret ?_
                    refine fin1 (.inr rfl) rfl rfl ?_
                    exact ⟨_, rfl, by first | rfl | (simp [h8]; done) | (simp; omega), hS18.pick [7] rfl⟩
                  · skip
                    refine wl_guard rfl rfl (decide_eq_false h21) ?_
                    refine wl_move rfl rfl ?_
                    refine wl_guard rfl rfl (decide_eq_false h21) ?_
                    refine wl_gtr rfl rfl rfl ?_
                    refine wl_pickF rfl (decide_eq_false h21) rfl rfl ?_
                    refine wl_move rfl rfl ?_
                    refine wl_splitD 68 rfl (fun h22 => ?_) (fun h22 => ?_)
                    · skip
                      refine wl_unwanted rfl rfl (decide_eq_true h22) rfl ?_
                      refine wl_unwanted rfl rfl (decide_eq_true h22) rfl ?_
                      refine wl_pickT rfl (decide_eq_true h22) rfl rfl ?_
                      refine wl_nil ?_
                      refine qs_seq ?_
                      refine wc_sub (L' := [(71, _), (9, _), (8, _), (2, _), (3, _)]) (.cons rfl (.cons rfl (.cons rfl (.cons rfl (.cons rfl .nil))))) ?_
                      refine wc_condT rfl ?_
                      refine wc_seq ?_
                      refine wc_region ?_
                      refine wl_move rfl rfl ?_
                      refine wl_assign rfl rfl ?_
                      refine wl_nil ?_
                      refine qs_seq ?_
                      refine wc_ret ?_
                      refine qs_then_ret ?_
                      refine fin1 (.inr rfl) rfl rfl ?_
                      exact ⟨_, rfl, by first | rfl | (simp [h8]; done) | (simp; omega), hS18.pick [7] rfl⟩
                    · skip
                      refine wl_guard rfl rfl (decide_eq_false h22) ?_
                      refine wl_move rfl rfl ?_
                      refine wl_guard rfl rfl (decide_eq_false h22) ?_
                      refine wl_gtr rfl rfl rfl ?_
                      refine wl_pickF rfl (decide_eq_false h22) rfl rfl ?_
                      refine wl_nil ?_
                      refine qs_seq ?_
                      refine wc_sub (L' := [(71, _), (9, _), (8, _), (2, _), (3, _)]) (.cons rfl (.cons rfl (.cons rfl (.cons rfl (.cons rfl .nil))))) ?_
                      refine wc_condD rfl (fun h23 => ?_) (fun h23 => ?_)
                      · skip
                        refine wc_seq ?_
                        refine wc_region ?_
                        refine wl_move rfl rfl ?_
                        refine wl_assign rfl rfl ?_
                        refine wl_nil ?_
                        refine qs_seq ?_
                        refine wc_ret ?_
                        refine qs_then_ret ?_
                        refine fin1 (.inr rfl) rfl rfl ?_
                        exact ⟨_, rfl, by first | rfl | (simp [h8]; done) | (simp; omega), hS18.pick [7] rfl⟩
                      · skip
                        refine wc_skip ?_
                        refine qs_seq ?_
                        refine wc_seq ?_
                        refine wc_region ?_
                        refine wl_move rfl rfl ?_
                        refine wl_move rfl rfl ?_
                        refine wl_guard rfl rfl rfl ?_
                        refine wl_move rfl rfl ?_
                        refine wl_guard rfl rfl rfl ?_
                        refine wl_move rfl rfl ?_
                        refine wl_guard rfl rfl rfl ?_
                        refine wl_lss rfl rfl rfl ?_
                        refine wl_guard rfl rfl rfl ?_
                        refine wl_move rfl rfl ?_
                        refine wl_guard rfl rfl rfl ?_
                        have hC24 := hS18.split [] [false, false, false, false, false, false, false, false] rfl; dsimp only [selF, pickA, nthA, List.cons_append, List.nil_append] at hC24
                        refine wl_call cal_24 rfl (key_sp hC24 (hG.starL 7 rfl) a) rfl ?_
                        rintro e w24 ⟨_, rfl, rfl, hS24⟩; refine ⟨_, rfl, ?_⟩
                        replace hS24 := hS24.join rfl; dsimp only [List.dropLast, List.cons_append, List.nil_append] at hS24; clear hC24
                        clear hS18
                        refine wl_guard rfl rfl rfl ?_
                        refine wl_move rfl rfl ?_
                        refine wl_guard rfl rfl rfl ?_
                        have hC25 := hS24.split [] [false, false, false, false, false, false, false, false] rfl; dsimp only [selF, pickA, nthA, List.cons_append, List.nil_append] at hC25
                        refine wl_call cal_24 rfl (key_sp hC25 (hG.starL 7 rfl) b) rfl ?_
                        rintro e w25 ⟨_, rfl, rfl, hS25⟩; refine ⟨_, rfl, ?_⟩
                        replace hS25 := hS25.join rfl; dsimp only [List.dropLast, List.cons_append, List.nil_append] at hS25; clear hC25
                        clear hS24
                        refine wl_guard rfl rfl rfl ?_
                        refine wl_lssS rfl rfl rfl ?_
                        refine wl_guard rfl rfl rfl ?_
                        refine wl_eqlB Tryz.underlying4 rfl rfl rfl ?_
                        refine wl_pickT rfl rfl rfl rfl ?_
                        refine wl_move rfl rfl ?_
                        refine wl_split 85 rfl (fun h26 => ?_) (fun h26 => ?_)
                        · skip
                          refine wl_guard rfl rfl h26 ?_
                          refine wl_move rfl rfl ?_
                          refine wl_guard rfl rfl h26 ?_
                          have hC27 := hS25.split [] [false, false, false, false, false, false, false, false] rfl; dsimp only [selF, pickA, nthA, List.cons_append, List.nil_append] at hC27
                          refine wl_call cal_24 rfl (key_sp hC27 (hG.starL 7 rfl) a) rfl ?_
                          rintro e w27 ⟨_, rfl, rfl, hS27⟩; refine ⟨_, rfl, ?_⟩
                          replace hS27 := hS27.join rfl; dsimp only [List.dropLast, List.cons_append, List.nil_append] at hS27; clear hC27
                          clear hS25
                          have h8 := keyP_eight (a := a) (by omega)
                          refine wl_guard rfl rfl h26 ?_
                          refine wl_lenS Tryz.underlying9 rfl rfl ?_
                          refine wl_guard rfl rfl h26 ?_
                          refine wl_eql rfl rfl rfl ?_
                          refine wl_pickT rfl h26 rfl rfl ?_
                          refine wl_assign rfl rfl ?_
                          refine wl_nil ?_
                          refine qs_seq ?_
                          refine wc_sub (L' := [(8, _)]) (.cons rfl .nil) ?_
                          refine wc_ret ?_
                          refine fin1 (.inr rfl) rfl rfl ?_
                          exact ⟨_, rfl, by first | rfl | (simp [h8]; done) | (simp; omega), hS27.pick [7] rfl⟩
                        · skip
                          simp [keyP_lt (a := a) (b := b) (by omega) (by omega)] at h26
            · skip
              refine wl_unwanted rfl rfl h17 rfl ?_
              refine wl_unwanted rfl rfl h17 rfl ?_
              refine wl_unwanted rfl rfl h17 rfl ?_
              refine wl_unwanted rfl rfl h17 rfl ?_
              refine wl_guard rfl rfl h16 ?_
              refine wl_pickF rfl h17 rfl rfl ?_
              refine wl_pickF rfl h16 rfl rfl ?_
              refine wl_nil ?_
              refine qs_seq ?_
              refine wc_sub (L' := [(57, _), (9, _), (8, _), (2, _), (3, _)]) (.cons rfl (.cons rfl (.cons rfl (.cons rfl (.cons rfl .nil))))) ?_
              refine wc_condF rfl ?_
              refine wc_skip ?_
              refine qs_seq ?_
              refine wc_seq ?_
              refine wc_seq ?_
              refine wc_region ?_
              refine wl_move rfl rfl ?_
              refine wl_lss rfl rfl rfl ?_
              refine wl_move rfl rfl ?_
              refine wl_splitD 60 rfl (fun h28 => ?_) (fun h28 => ?_)
              · skip
                refine wl_unwanted rfl rfl (decide_eq_true h28) rfl ?_
                refine wl_unwanted rfl rfl (decide_eq_true h28) rfl ?_
                refine wl_pickT rfl (decide_eq_true h28) rfl rfl ?_
                refine wl_move rfl rfl ?_
                refine wl_unwanted rfl rfl rfl rfl ?_
                refine wl_unwanted rfl rfl rfl rfl ?_
                refine wl_pickT rfl rfl rfl rfl ?_
                refine wl_move rfl rfl ?_
                refine wl_unwanted rfl rfl rfl rfl ?_
                refine wl_unwanted rfl rfl rfl rfl ?_
                refine wl_pickT rfl rfl rfl rfl ?_
                refine wl_nil ?_
                refine qs_seq ?_
                refine wc_sub (L' := [(71, _), (9, _), (8, _), (2, _), (3, _)]) (.cons rfl (.cons rfl (.cons rfl (.cons rfl (.cons rfl .nil))))) ?_
                refine wc_condT rfl ?_
                refine wc_seq ?_
                refine wc_region ?_
                refine wl_move rfl rfl ?_
                refine wl_assign rfl rfl ?_
                refine wl_nil ?_
                refine qs_seq ?_
                refine wc_ret ?_
                refine qs_then_ret ?_
                refine fin1 (.inr rfl) rfl rfl ?_
                exact ⟨_, rfl, by first | rfl | (simp [h8]; done) | (simp; omega), hS15.pick [7] rfl⟩
              · skip
                refine wl_guard rfl rfl (decide_eq_false h28) ?_
                refine wl_move rfl rfl ?_
                refine wl_guard rfl rfl (decide_eq_false h28) ?_
                refine wl_lss rfl rfl rfl ?_
                refine wl_pickF rfl (decide_eq_false h28) rfl rfl ?_
                refine wl_move rfl rfl ?_
                refine wl_splitD 64 rfl (fun h29 => ?_) (fun h29 => ?_)
                · skip
                  refine wl_unwanted rfl rfl (decide_eq_true h29) rfl ?_
                  refine wl_unwanted rfl rfl (decide_eq_true h29) rfl ?_
                  refine wl_pickT rfl (decide_eq_true h29) rfl rfl ?_
                  refine wl_move rfl rfl ?_
                  refine wl_unwanted rfl rfl rfl rfl ?_
                  refine wl_unwanted rfl rfl rfl rfl ?_
                  refine wl_pickT rfl rfl rfl rfl ?_
                  refine wl_nil ?_
                  refine qs_seq ?_
                  refine wc_sub (L' := [(71, _), (9, _), (8, _), (2, _), (3, _)]) (.cons rfl (.cons rfl (.cons rfl (.cons rfl (.cons rfl .nil))))) ?_
                  refine wc_condT rfl ?_
                  refine wc_seq ?_
                  refine wc_region ?_
                  refine wl_move rfl rfl ?_
                  refine wl_assign rfl rfl ?_
                  refine wl_nil ?_
                  refine qs_seq ?_
                  refine wc_ret ?_
                  refine qs_then_ret ?_
                  refine fin1 (.inr rfl) rfl rfl ?_
                  exact ⟨_, rfl, by first | rfl | (simp [h8]; done) | (simp; omega), hS15.pick [7] rfl⟩
                · skip
                  refine wl_guard rfl rfl (decide_eq_false h29) ?_
                  refine wl_move rfl rfl ?_
                  refine wl_guard rfl rfl (decide_eq_false h29) ?_
                  refine wl_gtr rfl rfl rfl ?_
                  refine wl_pickF rfl (decide_eq_false h29) rfl rfl ?_
                  refine wl_move rfl rfl ?_
                  refine wl_splitD 68 rfl (fun h30 => ?_) (fun h30 => ?_)
                  · skip
                    refine wl_unwanted rfl rfl (decide_eq_true h30) rfl ?_
                    refine wl_unwanted rfl rfl (decide_eq_true h30) rfl ?_
                    refine wl_pickT rfl (decide_eq_true h30) rfl rfl ?_
                    refine wl_nil ?_
                    refine qs_seq ?_
                    refine wc_sub (L' := [(71, _), (9, _), (8, _), (2, _), (3, _)]) (.cons rfl (.cons rfl (.cons rfl (.cons rfl (.cons rfl .nil))))) ?_
                    refine wc_condT rfl ?_
                    refine wc_seq ?_
                    refine wc_region ?_
                    refine wl_move rfl rfl ?_
                    refine wl_assign rfl rfl ?_
                    refine wl_nil ?_
                    refine qs_seq ?_
                    refine wc_ret ?_
                    refine qs_then_ret ?_
                    refine fin1 (.inr rfl) rfl rfl ?_
                    exact ⟨_, rfl, by first | rfl | (simp [h8]; done) | (simp; omega), hS15.pick [7] rfl⟩
                  · skip
                    refine wl_guard rfl rfl (decide_eq_false h30) ?_
                    refine wl_move rfl rfl ?_
                    refine wl_guard rfl rfl (decide_eq_false h30) ?_
                    refine wl_gtr rfl rfl rfl ?_
                    refine wl_pickF rfl (decide_eq_false h30) rfl rfl ?_
                    refine wl_nil ?_
                    refine qs_seq ?_
                    refine wc_sub (L' := [(71, _), (9, _), (8, _), (2, _), (3, _)]) (.cons rfl (.cons rfl (.cons rfl (.cons rfl (.cons rfl .nil))))) ?_
                    refine wc_condD rfl (fun h31 => ?_) (fun h31 => ?_)
                    · skip
                      refine wc_seq ?_
                      refine wc_region ?_
                      refine wl_move rfl rfl ?_
                      refine wl_assign rfl rfl ?_
                      refine wl_nil ?_
                      refine qs_seq ?_
                      refine wc_ret ?_
                      refine qs_then_ret ?_
                      refine fin1 (.inr rfl) rfl rfl ?_
                      exact ⟨_, rfl, by first | rfl | (simp [h8]; done) | (simp; omega), hS15.pick [7] rfl⟩
                    · skip
                      refine wc_skip ?_
                      refine qs_seq ?_
                      refine wc_seq ?_
                      refine wc_region ?_
                      refine wl_move rfl rfl ?_
                      refine wl_move rfl rfl ?_
                      refine wl_guard rfl rfl rfl ?_
                      refine wl_move rfl rfl ?_
                      refine wl_guard rfl rfl rfl ?_
                      refine wl_move rfl rfl ?_
                      refine wl_guard rfl rfl rfl ?_
                      refine wl_lss rfl rfl rfl ?_
                      refine wl_guard rfl rfl rfl ?_
                      refine wl_move rfl rfl ?_
                      refine wl_guard rfl rfl rfl ?_
                      have hC32 := hS15.split [] [false, false, false, false, false, false, false, false] rfl; dsimp only [selF, pickA, nthA, List.cons_append, List.nil_append] at hC32
                      refine wl_call cal_24 rfl (key_sp hC32 (hG.starL 7 rfl) a) rfl ?_
                      rintro e w32 ⟨_, rfl, rfl, hS32⟩; refine ⟨_, rfl, ?_⟩
                      replace hS32 := hS32.join rfl; dsimp only [List.dropLast, List.cons_append, List.nil_append] at hS32; clear hC32
                      clear hS15
                      refine wl_guard rfl rfl rfl ?_
                      refine wl_move rfl rfl ?_
                      refine wl_guard rfl rfl rfl ?_
                      have hC33 := hS32.split [] [false, false, false, false, false, false, false, false] rfl; dsimp only [selF, pickA, nthA, List.cons_append, List.nil_append] at hC33
                      refine wl_call cal_24 rfl (key_sp hC33 (hG.starL 7 rfl) b) rfl ?_
                      rintro e w33 ⟨_, rfl, rfl, hS33⟩; refine ⟨_, rfl, ?_⟩
                      replace hS33 := hS33.join rfl; dsimp only [List.dropLast, List.cons_append, List.nil_append] at hS33; clear hC33
                      clear hS32
                      refine wl_guard rfl rfl rfl ?_
                      refine wl_lssS rfl rfl rfl ?_
                      refine wl_guard rfl rfl rfl ?_
                      refine wl_eqlB Tryz.underlying4 rfl rfl rfl ?_
                      refine wl_pickT rfl rfl rfl rfl ?_
                      refine wl_move rfl rfl ?_
                      refine wl_split 85 rfl (fun h34 => ?_) (fun h34 => ?_)
                      · skip
                        refine wl_guard rfl rfl h34 ?_
                        refine wl_move rfl rfl ?_
                        refine wl_guard rfl rfl h34 ?_
                        have hC35 := hS33.split [] [false, false, false, false, false, false, false, false] rfl; dsimp only [selF, pickA, nthA, List.cons_append, List.nil_append] at hC35
                        refine wl_call cal_24 rfl (key_sp hC35 (hG.starL 7 rfl) a) rfl ?_
                        rintro e w35 ⟨_, rfl, rfl, hS35⟩; refine ⟨_, rfl, ?_⟩
                        replace hS35 := hS35.join rfl; dsimp only [List.dropLast, List.cons_append, List.nil_append] at hS35; clear hC35
                        clear hS33
                        have h8 := keyP_eight (a := a) (by omega)
                        refine wl_guard rfl rfl h34 ?_
                        refine wl_lenS Tryz.underlying9 rfl rfl ?_
                        refine wl_guard rfl rfl h34 ?_
                        refine wl_eql rfl rfl rfl ?_
                        refine wl_pickT rfl h34 rfl rfl ?_
                        refine wl_assign rfl rfl ?_
                        refine wl_nil ?_
                        refine qs_seq ?_
                        refine wc_sub (L' := [(8, _)]) (.cons rfl .nil) ?_
                        refine wc_ret ?_
                        refine fin1 (.inr rfl) rfl rfl ?_
                        exact ⟨_, rfl, by first | rfl | (simp [h8]; done) | (simp; omega), hS35.pick [7] rfl⟩
                      · skip
                        simp [keyP_lt (a := a) (b := b) (by omega) (by omega)] at h34

end Go.Proofs.YtcbdclhoekokpaaGreatDoor
