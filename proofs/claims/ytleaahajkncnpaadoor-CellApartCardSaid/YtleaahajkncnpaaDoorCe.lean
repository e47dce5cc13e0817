/- laws of cell: CellReads -/
import Derived.Test.YtleaahajkncnpaaDoorCd
namespace Go.Proofs.YtleaahajkncnpaaDoor
open Go.RowKit M
set_option linter.unusedVariables false
theorem get_eq {C C2 : CS} (h : C = C2) : getV C = getV C2 := by rw [h]
theorem rT_new2 {w : World} {p : Nat} {As : List Th} (h : Sat w (refT p (.slice none 0 0) newD :: As)) : Sat w (rT p newD :: As) :=
  rT_shut (.slice none 0 0) (by simp [newD]) ((h.row_nil inC).perm (List.Perm.swap _ _ _))
set_option maxRecDepth 100000 in
theorem reads_law {w : World} {F : Th} (hS : Sat w [F]) (hG : Ent F (Glob 0)) (s t : Bytes) (f : Int) :
    Calls Tryd.prog 3 #[strV s, strV t, intV f] w (Ret fun v w' => v = .bool true ∧ Sat w' [F]) := by
  refine calls_enter Tryd.func3 rfl Tryd.ntmps3 rfl ?_
  refine wc_seq ?_
  refine wc_region ?_
  refine wl_assign rfl rfl ?_
  refine wl_nil ?_
  refine qs_seq ?_
  refine wc_seq ?_
  refine wc_region ?_
  have hC1 := hS.split [] [false] rfl; dsimp only [selF, pickA, nthA, List.cons_append, List.nil_append] at hC1
  refine wl_call cal_8 rfl (small_sp hC1 (hG.starL 0 rfl)) rfl ?_
  rintro e w1 ⟨_, rfl, rfl, hS1⟩; refine ⟨_, rfl, ?_⟩
  replace hS1 := hS1.join rfl; dsimp only [List.dropLast, List.cons_append, List.nil_append] at hS1; clear hC1
  refine wl_assign rfl rfl ?_
  refine wl_nil ?_
  refine qs_seq ?_
  refine wc_seq ?_
  refine wc_seq ?_
  refine wc_region ?_
  refine wl_move rfl rfl ?_
  refine wl_lenS Tryd.underlying9 rfl rfl ?_
  refine wl_gtr rfl rfl rfl ?_
  refine wl_move rfl rfl ?_
  refine wl_splitD 22 rfl (fun h2 => ?_) (fun h2 => ?_)
  · skip
    refine wl_unwanted rfl rfl (decide_eq_true h2) rfl ?_
    refine wl_unwanted rfl rfl (decide_eq_true h2) rfl ?_
    refine wl_unwanted rfl rfl (decide_eq_true h2) rfl ?_
    refine wl_pickT rfl (decide_eq_true h2) rfl rfl ?_
    refine wl_nil ?_
    refine qs_seq ?_
    refine wc_sub (L' := [(26, _), (7, _), (6, _), (0, _), (1, _), (2, _)]) (.cons rfl (.cons rfl (.cons rfl (.cons rfl (.cons rfl (.cons rfl .nil)))))) ?_
    refine wc_condT rfl ?_
    refine wc_seq ?_
    refine wc_region ?_
    refine wl_move rfl rfl ?_
    refine wl_assign rfl rfl ?_
    refine wl_nil ?_
    refine qs_seq ?_
    refine wc_ret ?_
    refine qs_then_ret ?_
    refine fin1 (.inr rfl) rfl rfl ?_
    exact ⟨_, rfl, by first | rfl | simp, hS1.pick [0] rfl⟩
  · skip
    refine wl_guard rfl rfl (decide_eq_false h2) ?_
    refine wl_move rfl rfl ?_
    refine wl_guard rfl rfl (decide_eq_false h2) ?_
    refine wl_lenS Tryd.underlying9 rfl rfl ?_
    refine wl_guard rfl rfl (decide_eq_false h2) ?_
    refine wl_gtr rfl rfl rfl ?_
    refine wl_pickF rfl (decide_eq_false h2) rfl rfl ?_
    refine wl_nil ?_
    refine qs_seq ?_
    refine wc_sub (L' := [(26, _), (7, _), (6, _), (0, _), (1, _), (2, _)]) (.cons rfl (.cons rfl (.cons rfl (.cons rfl (.cons rfl (.cons rfl .nil)))))) ?_
    refine wc_condD rfl (fun h3 => ?_) (fun h3 => ?_)
    · skip
      refine wc_seq ?_
      refine wc_region ?_
      refine wl_move rfl rfl ?_
      refine wl_assign rfl rfl ?_
      refine wl_nil ?_
      refine qs_seq ?_
      refine wc_ret ?_
      refine qs_then_ret ?_
      refine fin1 (.inr rfl) rfl rfl ?_
      exact ⟨_, rfl, by first | rfl | simp, hS1.pick [0] rfl⟩
    · skip
      refine wc_skip ?_
      refine qs_seq ?_
      refine wc_seq ?_
      refine wc_region ?_
      have hC4 := hS1.split [] [false] rfl; dsimp only [selF, pickA, nthA, List.cons_append, List.nil_append] at hC4
      refine wl_call cal_9 rfl (new_sp hC4) rfl ?_
      rintro e w4 ⟨_, rfl, p, rfl, hS4⟩; refine ⟨_, rfl, ?_⟩
      replace hS4 := hS4.join rfl; dsimp only [List.dropLast, List.cons_append, List.nil_append] at hS4; clear hC4
      clear hS1
      replace hS4 := dT_new hS4
      refine wl_assign rfl rfl ?_
      refine wl_nil ?_
      refine qs_seq ?_
      refine wc_seq ?_
      refine wc_region ?_
      have hC5 := hS4.split [] [false, false] rfl; dsimp only [selF, pickA, nthA, List.cons_append, List.nil_append] at hC5
      refine wl_call cal_10 rfl (newR_sp hC5) rfl ?_
      rintro e w5 ⟨_, rfl, r, rfl, hS5⟩; refine ⟨_, rfl, ?_⟩
      replace hS5 := hS5.join rfl; dsimp only [List.dropLast, List.cons_append, List.nil_append] at hS5; clear hC5
      clear hS4
      replace hS5 := rT_new2 hS5
      refine wl_assign rfl rfl ?_
      refine wl_nil ?_
      refine qs_seq ?_
      refine wc_seq ?_
      refine wc_seq ?_
      refine wc_region ?_
      refine wl_move rfl rfl ?_
      refine wl_eqlNil Tryd.underlying23 rfl rfl rfl ?_
      refine wl_nil ?_
      refine qs_seq ?_
      refine wc_sub (L' := [(31, _), (9, _), (8, _), (7, _), (6, _), (0, _), (1, _), (2, _)]) (.cons rfl (.cons rfl (.cons rfl (.cons rfl (.cons rfl (.cons rfl (.cons rfl (.cons rfl .nil)))))))) ?_
      refine wc_condF rfl ?_
      refine wc_skip ?_
      refine qs_seq ?_
      refine wc_seq ?_
      refine wc_region ?_
      refine wl_move rfl rfl ?_
      refine wl_move rfl rfl ?_
      refine wl_move rfl rfl ?_
      have hC6 := hS5.split [1] [false, true, false] rfl; dsimp only [selF, pickA, nthA, List.cons_append, List.nil_append] at hC6
      refine wl_call cal_11 rfl (writeT hC6 f 0 s) rfl ?_
      rintro e w6 ⟨_, rfl, rfl, hS6⟩; refine ⟨_, rfl, ?_⟩
      replace hS6 := hS6.join rfl; dsimp only [List.dropLast, List.cons_append, List.nil_append] at hS6; clear hC6
      clear hS5
      refine wl_nil ?_
      refine qs_seq ?_
      refine wc_sub (L' := [(9, _), (8, _), (7, _), (6, _), (0, _), (1, _), (2, _)]) (.cons rfl (.cons rfl (.cons rfl (.cons rfl (.cons rfl (.cons rfl (.cons rfl .nil))))))) ?_
      refine wc_seq ?_
      refine wc_region ?_
      refine wl_move rfl rfl ?_
      refine wl_move rfl rfl ?_
      refine wl_move rfl rfl ?_
      have hC7 := hS6.split [1] [false, true, false] rfl; dsimp only [selF, pickA, nthA, List.cons_append, List.nil_append] at hC7
      refine wl_call cal_12 rfl (writeRT hC7 f 0 s (by omega)) rfl ?_
      rintro e w7 ⟨_, rfl, rfl, hS7⟩; refine ⟨_, rfl, ?_⟩
      replace hS7 := hS7.join rfl; dsimp only [List.dropLast, List.cons_append, List.nil_append] at hS7; clear hC7
      clear hS6
      refine wl_nil ?_
      refine qs_seq ?_
      refine wc_sub (L' := [(9, _), (8, _), (7, _), (6, _), (1, _), (2, _)]) (.cons rfl (.cons rfl (.cons rfl (.cons rfl (.cons rfl (.cons rfl .nil)))))) ?_
      refine wc_seq ?_
      refine wc_region ?_
      refine wl_move rfl rfl ?_
      refine wl_move rfl rfl ?_
      refine wl_move rfl rfl ?_
      have hC8 := hS7.split [1] [false, true, false] rfl; dsimp only [selF, pickA, nthA, List.cons_append, List.nil_append] at hC8
      refine wl_call cal_11 rfl (writeT hC8 f 131072 t) rfl ?_
      rintro e w8 ⟨_, rfl, rfl, hS8⟩; refine ⟨_, rfl, ?_⟩
      replace hS8 := hS8.join rfl; dsimp only [List.dropLast, List.cons_append, List.nil_append] at hS8; clear hC8
      clear hS7
      refine wl_nil ?_
      refine qs_seq ?_
      refine wc_seq ?_
      refine wc_region ?_
      refine wl_move rfl rfl ?_
      refine wl_move rfl rfl ?_
      refine wl_move rfl rfl ?_
      have hC9 := hS8.split [1] [false, true, false] rfl; dsimp only [selF, pickA, nthA, List.cons_append, List.nil_append] at hC9
      refine wl_call cal_12 rfl (writeRT hC9 f 131072 t (by omega)) rfl ?_
      rintro e w9 ⟨_, rfl, rfl, hS9⟩; refine ⟨_, rfl, ?_⟩
      replace hS9 := hS9.join rfl; dsimp only [List.dropLast, List.cons_append, List.nil_append] at hS9; clear hC9
      clear hS8
      refine wl_nil ?_
      refine qs_seq ?_
      refine wc_sub (L' := [(9, _), (8, _), (7, _), (6, _), (2, _)]) (.cons rfl (.cons rfl (.cons rfl (.cons rfl (.cons rfl .nil))))) ?_
      refine wc_seq ?_
      refine wc_region ?_
      refine wl_move rfl rfl ?_
      refine wl_move rfl rfl ?_
      have hC10 := hS9.split [1] [false, true, false] rfl; dsimp only [selF, pickA, nthA, List.cons_append, List.nil_append] at hC10
      refine wl_call cal_13 rfl (open_sp hC10 (hG.starL 1 rfl) f) rfl ?_
      rintro e w10 ⟨_, rfl, (⟨hEa, ca, rfl, hS10⟩ | ⟨hEa, rfl, hS10⟩)⟩
      · skip
        refine ⟨_, rfl, ?_⟩
        replace hS10 := hS10.join rfl; dsimp only [List.dropLast, List.cons_append, List.nil_append] at hS10; clear hC10
        clear hS9
        refine wl_move rfl rfl ?_
        refine wl_extract rfl rfl rfl ?_
        refine wl_extract rfl rfl rfl ?_
        refine wl_assign rfl rfl ?_
        refine wl_assign rfl rfl ?_
        refine wl_nil ?_
        refine qs_seq ?_
        refine wc_sub (L' := [(11, _), (10, _), (9, _), (7, _), (6, _), (2, _)]) (.cons rfl (.cons rfl (.cons rfl (.cons rfl (.cons rfl (.cons rfl .nil)))))) ?_
        refine wc_seq ?_
        refine wc_region ?_
        refine wl_move rfl rfl ?_
        refine wl_move rfl rfl ?_
        have hC11 := hS10.split [2] [false, false, true, false] rfl; dsimp only [selF, pickA, nthA, List.cons_append, List.nil_append] at hC11
        refine wl_call cal_14 rfl (openR_sp hC11 f) rfl ?_
        rintro e w11 ⟨_, rfl, (⟨hEb, cb, rfl, hS11⟩ | ⟨hEb, rfl, hS11⟩)⟩
        · skip
          refine ⟨_, rfl, ?_⟩
          replace hS11 := hS11.join rfl; dsimp only [List.dropLast, List.cons_append, List.nil_append] at hS11; clear hC11
          clear hS10
          refine wl_move rfl rfl ?_
          refine wl_extract rfl rfl rfl ?_
          refine wl_extract rfl rfl rfl ?_
          refine wl_assign rfl rfl ?_
          refine wl_assign rfl rfl ?_
          refine wl_nil ?_
          refine qs_seq ?_
          refine wc_sub (L' := [(13, _), (12, _), (11, _), (10, _), (7, _), (6, _)]) (.cons rfl (.cons rfl (.cons rfl (.cons rfl (.cons rfl (.cons rfl .nil)))))) ?_
          refine wc_seq ?_
          refine wc_seq ?_
          refine wc_region ?_
          refine wl_move rfl rfl ?_
          refine wl_move rfl rfl ?_
          refine wl_neq rfl rfl rfl ?_
          refine wl_move rfl rfl ?_
          refine wl_splitD 63 rfl (fun h12 => ?_) (fun h12 => ?_)
          · skip
            exact absurd rfl h12
          · skip
            refine wl_guard rfl rfl (decide_eq_false h12) ?_
            refine wl_move rfl rfl ?_
            refine wl_guard rfl rfl (decide_eq_false h12) ?_
            refine wl_eqlNil Tryd.underlying29 rfl rfl rfl ?_
            refine wl_guard rfl rfl (decide_eq_false h12) ?_
            refine wl_move rfl rfl ?_
            refine wl_guard rfl rfl (decide_eq_false h12) ?_
            refine wl_eqlNil Tryd.underlying32 rfl rfl rfl ?_
            refine wl_guard rfl rfl (decide_eq_false h12) ?_
            refine wl_neqB Tryd.underlying4 rfl rfl rfl ?_
            refine wl_pickF rfl (decide_eq_false h12) rfl rfl ?_
            refine wl_nil ?_
            refine qs_seq ?_
            refine wc_sub (L' := [(69, _), (12, _), (10, _), (7, _), (6, _)]) (.cons rfl (.cons rfl (.cons rfl (.cons rfl (.cons rfl .nil))))) ?_
            refine wc_cond rfl (fun h13 => ?_) (fun h13 => ?_)
            · skip
              simp at h13
            · skip
              refine wc_skip ?_
              refine qs_seq ?_
              refine wc_seq ?_
              refine wc_seq ?_
              refine wc_region ?_
              refine wl_move rfl rfl ?_
              refine wl_eqlNil Tryd.underlying29 rfl rfl rfl ?_
              refine wl_move rfl rfl ?_
              refine wl_guard rfl rfl rfl ?_
              refine wl_move rfl rfl ?_
              refine wl_guard rfl rfl rfl ?_
              refine wl_eqlNil Tryd.underlying32 rfl rfl rfl ?_
              refine wl_pickF rfl rfl rfl rfl ?_
              refine wl_nil ?_
              refine qs_seq ?_
              refine wc_sub (L' := [(75, _), (12, _), (10, _), (7, _), (6, _)]) (.cons rfl (.cons rfl (.cons rfl (.cons rfl (.cons rfl .nil))))) ?_
              refine wc_condF rfl ?_
              refine wc_skip ?_
              refine qs_seq ?_
              refine wc_seq ?_
              refine wc_region ?_
              refine wl_move rfl rfl ?_
              have hC14 := hS11.split [2] [false, false, true, false, false] rfl; dsimp only [selF, pickA, nthA, List.cons_append, List.nil_append] at hC14
              refine wl_call cal_15 rfl (get_sp hC14) rfl ?_
              rintro e w14 ⟨_, rfl, rfl, hS14⟩; refine ⟨_, rfl, ?_⟩
              replace hS14 := hS14.join rfl; dsimp only [List.dropLast, List.cons_append, List.nil_append] at hS14; clear hC14
              clear hS11
              refine wl_move rfl rfl ?_
              refine wl_extract rfl rfl rfl ?_
              refine wl_extract rfl rfl rfl ?_
              refine wl_assign rfl rfl ?_
              refine wl_assign rfl rfl ?_
              refine wl_nil ?_
              refine qs_seq ?_
              refine wc_sub (L' := [(15, _), (14, _), (12, _), (7, _), (6, _)]) (.cons rfl (.cons rfl (.cons rfl (.cons rfl (.cons rfl .nil))))) ?_
              refine wc_seq ?_
              refine wc_region ?_
              refine wl_move rfl rfl ?_
              have hC15 := hS14.split [1] [false, true, false, false, false] rfl; dsimp only [selF, pickA, nthA, List.cons_append, List.nil_append] at hC15
              refine wl_call cal_16 rfl (getR_sp4 hC15) rfl ?_
              rintro e w15 ⟨_, rfl, rfl, hS15⟩; refine ⟨_, rfl, ?_⟩
              replace hS15 := hS15.join rfl; dsimp only [List.dropLast, List.cons_append, List.nil_append] at hS15; clear hC15
              clear hS14
              refine wl_move rfl rfl ?_
              refine wl_extract rfl rfl rfl ?_
              refine wl_extract rfl rfl rfl ?_
              refine wl_assign rfl rfl ?_
              refine wl_assign rfl rfl ?_
              refine wl_nil ?_
              refine qs_seq ?_
              refine wc_sub (L' := [(17, _), (16, _), (15, _), (14, _), (7, _), (6, _)]) (.cons rfl (.cons rfl (.cons rfl (.cons rfl (.cons rfl (.cons rfl .nil)))))) ?_
              refine wc_seq ?_
              refine wc_region ?_
              refine wl_move rfl rfl ?_
              refine wl_move rfl rfl ?_
              refine wl_guard rfl rfl rfl ?_
              refine wl_move rfl rfl ?_
              refine wl_guard rfl rfl rfl ?_
              refine wl_move rfl rfl ?_
              refine wl_guard rfl rfl rfl ?_
              refine wl_eqlS rfl rfl rfl ?_
              refine wl_pickT rfl rfl rfl rfl ?_
              refine wl_move rfl rfl ?_
              refine wl_splitD 93 rfl (fun h16 => ?_) (fun h16 => ?_)
              · skip
                refine wl_guard rfl rfl (decide_eq_true h16) ?_
                refine wl_move rfl rfl ?_
                refine wl_guard rfl rfl (decide_eq_true h16) ?_
                refine wl_move rfl rfl ?_
                refine wl_guard rfl rfl (decide_eq_true h16) ?_
                refine wl_eqlB Tryd.underlying4 rfl rfl rfl ?_
                refine wl_pickT rfl (decide_eq_true h16) rfl rfl ?_
                refine wl_assign rfl rfl ?_
                refine wl_nil ?_
                refine qs_seq ?_
                refine wc_sub (L' := [(6, _)]) (.cons rfl .nil) ?_
                refine wc_ret ?_
                refine fin1 (.inr rfl) rfl rfl ?_
                exact ⟨_, rfl, by first | rfl | simp, hS15.pick [4] rfl⟩
              · skip
                exact absurd rfl h16
        · skip
          exact absurd hEa hEb
      · skip
        refine ⟨_, rfl, ?_⟩
        replace hS10 := hS10.join rfl; dsimp only [List.dropLast, List.cons_append, List.nil_append] at hS10; clear hC10
        clear hS9
        refine wl_move rfl rfl ?_
        refine wl_extract rfl rfl rfl ?_
        refine wl_extract rfl rfl rfl ?_
        refine wl_assign rfl rfl ?_
        refine wl_assign rfl rfl ?_
        refine wl_nil ?_
        refine qs_seq ?_
        refine wc_sub (L' := [(11, _), (10, _), (9, _), (7, _), (6, _), (2, _)]) (.cons rfl (.cons rfl (.cons rfl (.cons rfl (.cons rfl (.cons rfl .nil)))))) ?_
        refine wc_seq ?_
        refine wc_region ?_
        refine wl_move rfl rfl ?_
        refine wl_move rfl rfl ?_
        have hC17 := hS10.split [1] [false, true, false] rfl; dsimp only [selF, pickA, nthA, List.cons_append, List.nil_append] at hC17
        refine wl_call cal_14 rfl (openR_sp hC17 f) rfl ?_
        rintro e w17 ⟨_, rfl, (⟨hEb, cb, rfl, hS17⟩ | ⟨hEb, rfl, hS17⟩)⟩
        · skip
          exact absurd hEb hEa
        · skip
          refine ⟨_, rfl, ?_⟩
          replace hS17 := hS17.join rfl; dsimp only [List.dropLast, List.cons_append, List.nil_append] at hS17; clear hC17
          clear hS10
          refine wl_move rfl rfl ?_
          refine wl_extract rfl rfl rfl ?_
          refine wl_extract rfl rfl rfl ?_
          refine wl_assign rfl rfl ?_
          refine wl_assign rfl rfl ?_
          refine wl_nil ?_
          refine qs_seq ?_
          refine wc_sub (L' := [(13, _), (12, _), (11, _), (10, _), (7, _), (6, _)]) (.cons rfl (.cons rfl (.cons rfl (.cons rfl (.cons rfl (.cons rfl .nil)))))) ?_
          refine wc_seq ?_
          refine wc_seq ?_
          refine wc_region ?_
          refine wl_move rfl rfl ?_
          refine wl_move rfl rfl ?_
          refine wl_neq rfl rfl rfl ?_
          refine wl_move rfl rfl ?_
          refine wl_splitD 63 rfl (fun h18 => ?_) (fun h18 => ?_)
          · skip
            exact absurd rfl h18
          · skip
            refine wl_guard rfl rfl (decide_eq_false h18) ?_
            refine wl_move rfl rfl ?_
            refine wl_guard rfl rfl (decide_eq_false h18) ?_
            refine wl_eqlNilNil Tryd.underlying29 rfl rfl rfl ?_
            refine wl_guard rfl rfl (decide_eq_false h18) ?_
            refine wl_move rfl rfl ?_
            refine wl_guard rfl rfl (decide_eq_false h18) ?_
            refine wl_eqlNilNil Tryd.underlying32 rfl rfl rfl ?_
            refine wl_guard rfl rfl (decide_eq_false h18) ?_
            refine wl_neqB Tryd.underlying4 rfl rfl rfl ?_
            refine wl_pickF rfl (decide_eq_false h18) rfl rfl ?_
            refine wl_nil ?_
            refine qs_seq ?_
            refine wc_sub (L' := [(69, _), (12, _), (10, _), (7, _), (6, _)]) (.cons rfl (.cons rfl (.cons rfl (.cons rfl (.cons rfl .nil))))) ?_
            refine wc_cond rfl (fun h19 => ?_) (fun h19 => ?_)
            · skip
              simp at h19
            · skip
              refine wc_skip ?_
              refine qs_seq ?_
              refine wc_seq ?_
              refine wc_seq ?_
              refine wc_region ?_
              refine wl_move rfl rfl ?_
              refine wl_eqlNilNil Tryd.underlying29 rfl rfl rfl ?_
              refine wl_move rfl rfl ?_
              refine wl_unwanted rfl rfl rfl rfl ?_
              refine wl_unwanted rfl rfl rfl rfl ?_
              refine wl_pickT rfl rfl rfl rfl ?_
              refine wl_nil ?_
              refine qs_seq ?_
              refine wc_sub (L' := [(75, _), (12, _), (10, _), (7, _), (6, _)]) (.cons rfl (.cons rfl (.cons rfl (.cons rfl (.cons rfl .nil))))) ?_
              refine wc_condT rfl ?_
              refine wc_seq ?_
              refine wc_region ?_
              refine wl_move rfl rfl ?_
              refine wl_assign rfl rfl ?_
              refine wl_nil ?_
              refine qs_seq ?_
              refine wc_ret ?_
              refine qs_then_ret ?_
              refine fin1 (.inr rfl) rfl rfl ?_
              exact ⟨_, rfl, by first | rfl | simp, hS17.pick [2] rfl⟩

end Go.Proofs.YtleaahajkncnpaaDoor
